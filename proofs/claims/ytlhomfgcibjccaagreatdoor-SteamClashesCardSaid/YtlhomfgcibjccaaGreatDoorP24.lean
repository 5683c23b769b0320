import Derived.Test.YtlhomfgcibjccaaGreatDoorP23
set_option linter.all false
set_option maxHeartbeats 4000000
section
open Go Go.LL
namespace Go.Proofs
section
variable{G:Prop}{g:Bool}
theorem Mm(h:G:=by refine Z ?_;refine Zo rfl rfl (.inl rfl) hB.pF (Z ?_);refine YA rfl rfl rfl (by simp) ?_;exact Mk):G:=h
theorem Zil(h:G:=by refine Z ?_;refine Vd rfl (WW (M:=m) ok tK rfl (.inl rfl)) ?_;rintro v _ ⟨L2,n2,m2,fH,rfl,rfl,hm,_⟩;have hm:=hm rfl;refine Z ?_;exact⟨⟨true,true,it,yM,L2,1,0,n2,m2⟩,by simp only;omega,⟨fH,by simp only;omega,λe=>by simp at e,λ_=>⟨rfl,rfl,rfl⟩⟩,V,trivial,rfl⟩):G:=h
theorem Zim(h:G:=by refine Z ?_;refine Vd rfl (WW (M:=m) ok tK rfl (.inl rfl)) ?_;rintro v _ ⟨L2,n2,m2,fH,rfl,rfl,hm,_⟩;have hm:=hm rfl;refine Z ?_;exact⟨⟨true,false,it,yM,L2,1,0,n2,m2⟩,by simp only;omega,⟨fH,by simp only;omega,λe=>by simp at e,λ_=>⟨rfl,rfl,rfl⟩⟩,V,trivial,rfl⟩):G:=h
theorem Zin(h:G:=by refine Z ?_;refine OE Au (vs:=[]) rfl ?_;refine(MF ?_);refine Z ?_;refine Yd rfl rfl rfl ⟨by unfold wC;simp only;omega,?_⟩;refine Z ?_;refine Vd rfl (WV (M:=m) ok tK rfl (.inr (.inr ⟨_,rfl⟩))) ?_;rintro v _ ⟨L2,W2,S2,n2,m2,fH,rfl,rfl,_,hm⟩;have hm:=hm ⟨_,rfl⟩;refine Z ?_;exact⟨⟨false,false,(it+1),yM,L2,W2,S2,n2,m2⟩,by simp only;omega,⟨fH,by simp only;omega,λ_=>⟨rfl,rfl⟩,λe=>by simp at e⟩,V,trivial,rfl⟩):G:=h
theorem Ml(h:G:=by refine Z ?_;refine Vd rfl (WV (M:=m) ok tK rfl (.inr (.inl rfl))) ?_;rintro v _ ⟨L2,W2,S2,n2,m2,fH,rfl,rfl,hm,_⟩;have hm:=hm rfl;refine Z ?_;exact⟨⟨false,false,it,yM,L2,W2,S2,n2,m2⟩,by simp only;omega,⟨fH,by simp only;omega,λ_=>⟨rfl,rfl⟩,λe=>by simp at e⟩,V,trivial,rfl⟩):G:=h
theorem Zio(h:G:=by
  refine Z ?_;refine Zo rfl rfl (.inl rfl) fH.jG (Z ?_);refine YT rfl rfl rfl (by simp) (Z ?_);refine Zo rfl rfl (.inl rfl) fH.u7 (Z ?_);refine Z8 rfl rfl rfl (by simp) (Z ?_);refine Vq rfl rfl (.inl rfl) (by decide) fH.nN (Z ?_);refine Yc rfl rfl rfl O (Z ?_);refine Vq rfl rfl (.inl rfl) (by decide) fH.nN (Z ?_);by_cases h1:n2=1
  ·refine YA rfl rfl rfl O (Z ?_);refine Zo rfl rfl (.inr (.inr (.inr rfl))) (v:=.int .i32 (-11)) rfl (Z ?_);refine Zr YX (vs:=[ptr c.M,.int .i32 (-11)]) rfl (OV ok YX fH xY true (λe=>by simp at e) (by rfl)) ?_;rintro v _ ⟨⟨z,rfl⟩,rfl⟩;exact Mk
  refine Yc rfl rfl rfl O (Z ?_);refine Zr YX (vs:=[ptr c.M,.int .i32 (-7)]) rfl (OV ok YX fH xY false (λ_=>h1) (by rfl)) ?_;rintro v _ ⟨⟨z,rfl⟩,rfl⟩;exact Mk):G:=h
theorem Mk(h:G:=by refine Z ?_;refine Zr Yj (vs:=[]) rfl (OW ok Yj (by rfl)) ?_;rintro v _ ⟨rfl,rfl⟩;refine Z ?_;refine VE rfl (UV ok Oi rfl (.inl rfl) (.inl (by simp[Vb,cd]))) ?_;rintro v _ ⟨rfl,rfl⟩;refine Z ?_;refine Zr YH (vs:=[ptr c.M]) rfl (OU ok YH rfl) ?_;rintro v _ ⟨rfl,l,Hl,h1,h2,h3,h4,h5,rfl⟩;refine Z ?_;exact⟨l,Hl,h1,h2,h3,h4,h5,rfl⟩):G:=h
theorem Mj(h:G:=by
  refine Z ?_;refine Z ?_;refine Zo rfl rfl (.inl rfl) hB.pF (Z ?_);refine Yc rfl rfl rfl O (Z ?_);by_cases EE:yM=0
  ·refine Z8 rfl rfl rfl EE (Z ?_);refine YA rfl rfl rfl EE (Z ?_);refine Zr OR (vs:=[]) rfl (WY ok OR XN (by simp[Vb,cd])) ?_;rintro v _ ⟨⟨z1,rfl⟩,rfl⟩;refine Z ?_;refine Zr GN (vs:=[.pointer (some ((dN c.M).add 1)),_,.int .i64 2]) rfl (WZ ok GN rfl (by rfl)) ?_;rintro v _ ⟨rfl,rfl⟩;refine Z ?_;refine Zr OR (vs:=[]) rfl (WY ok OR XN (by simp[Vb,cd])) ?_;rintro v _ ⟨⟨z2,rfl⟩,rfl⟩;refine Z ?_;refine Zo rfl rfl (.inr (.inr (.inr rfl))) rfl (Z ?_);refine Yd rfl rfl rfl ?_;intro b3 _;refine Z ?_;cases b3
   ·refine Z ?_;refine Vd rfl (LA (M:=m) ok tK rfl (by rfl)) ?_;rintro v _ (⟨L2,n2,m2,fH,rfl,rfl,hm⟩ | ⟨n2,fH,xY,rfl,rfl⟩)
    ·refine Z ?_;refine Zo rfl rfl (.inl rfl) fH.jG (Z ?_);refine Z8 rfl rfl rfl (by simp) (Z ?_);exact⟨⟨true,false,0,z1,L2,1,0,n2,m2⟩,by simp only;omega,⟨fH,by simp only;omega,λe=>by simp at e,λ_=>⟨rfl,rfl,rfl⟩⟩,V,trivial,rfl⟩
    refine Z ?_;refine Zo rfl rfl (.inl rfl) fH.jG (Z ?_);refine YT rfl rfl rfl (by simp) (Z ?_);refine Zo rfl rfl (.inl rfl) fH.u7 (Z ?_);refine Z8 rfl rfl rfl (by simp) (Z ?_);refine Vq rfl rfl (.inl rfl) (by decide) fH.nN (Z ?_);refine Yc rfl rfl rfl O (Z ?_);refine Zo rfl rfl (.inr (.inr (.inr rfl))) (v:=.int .i32 (-11)) rfl (Z ?_);refine Zr YX (vs:=[ptr c.M,.int .i32 (-11)]) rfl (OV ok YX fH xY true (λe=>by simp at e) (by rfl)) ?_;rintro v _ ⟨⟨z,rfl⟩,rfl⟩;refine Z ?_;refine Zr Yj (vs:=[]) rfl (OW ok Yj (by rfl)) ?_;rintro v _ ⟨rfl,rfl⟩;refine Z ?_;refine VE rfl (UV ok Oi rfl (.inl rfl) (.inl (by simp[Vb,cd]))) ?_;rintro v _ ⟨rfl,rfl⟩;refine Z ?_;refine Zr YH (vs:=[ptr c.M]) rfl (OU ok YH rfl) ?_;rintro v _ ⟨rfl,l,Hl,h1,h2,h3,h4,h5,rfl⟩;refine Z ?_;exact⟨l,Hl,h1,h2,h3,h4,h5,rfl⟩
   refine Z ?_;refine Vd rfl (LA (M:=m) ok tK rfl (by rfl)) ?_;rintro v _ (⟨L2,n2,m2,fH,rfl,rfl,hm⟩ | ⟨n2,fH,xY,rfl,rfl⟩)
   ·refine Z ?_;refine Zo rfl rfl (.inl rfl) fH.jG (Z ?_);refine Z8 rfl rfl rfl (by simp) (Z ?_);exact⟨⟨true,true,0,z1,L2,1,0,n2,m2⟩,by simp only;omega,⟨fH,by simp only;omega,λe=>by simp at e,λ_=>⟨rfl,rfl,rfl⟩⟩,V,trivial,rfl⟩
   refine Z ?_;refine Zo rfl rfl (.inl rfl) fH.jG (Z ?_);refine YT rfl rfl rfl (by simp) (Z ?_);refine Zo rfl rfl (.inl rfl) fH.u7 (Z ?_);refine Z8 rfl rfl rfl (by simp) (Z ?_);refine Vq rfl rfl (.inl rfl) (by decide) fH.nN (Z ?_);refine Yc rfl rfl rfl O (Z ?_);refine Vq rfl rfl (.inl rfl) (by decide) fH.nN (Z ?_);by_cases h1:n2=1
   ·refine YA rfl rfl rfl O (Z ?_);refine Zo rfl rfl (.inr (.inr (.inr rfl))) (v:=.int .i32 (-11)) rfl (Z ?_);refine Zr YX (vs:=[ptr c.M,.int .i32 (-11)]) rfl (OV ok YX fH xY true (λe=>by simp at e) (by rfl)) ?_;rintro v _ ⟨⟨z,rfl⟩,rfl⟩;refine Z ?_;refine Zr Yj (vs:=[]) rfl (OW ok Yj (by rfl)) ?_;rintro v _ ⟨rfl,rfl⟩;refine Z ?_;refine VE rfl (UV ok Oi rfl (.inl rfl) (.inl (by simp[Vb,cd]))) ?_;rintro v _ ⟨rfl,rfl⟩;refine Z ?_;refine Zr YH (vs:=[ptr c.M]) rfl (OU ok YH rfl) ?_;rintro v _ ⟨rfl,l,Hl,h1,h2,h3,h4,h5,rfl⟩;refine Z ?_;exact⟨l,Hl,h1,h2,h3,h4,h5,rfl⟩
   refine Yc rfl rfl rfl O (Z ?_);refine Zr YX (vs:=[ptr c.M,.int .i32 (-7)]) rfl (OV ok YX fH xY false (λ_=>h1) (by rfl)) ?_;rintro v _ ⟨⟨z,rfl⟩,rfl⟩;refine Z ?_;refine Zr Yj (vs:=[]) rfl (OW ok Yj (by rfl)) ?_;rintro v _ ⟨rfl,rfl⟩;refine Z ?_;refine VE rfl (UV ok Oi rfl (.inl rfl) (.inl (by simp[Vb,cd]))) ?_;rintro v _ ⟨rfl,rfl⟩;refine Z ?_;refine Zr YH (vs:=[ptr c.M]) rfl (OU ok YH rfl) ?_;rintro v _ ⟨rfl,l,Hl,h1,h2,h3,h4,h5,rfl⟩;refine Z ?_;exact⟨l,Hl,h1,h2,h3,h4,h5,rfl⟩
  refine YT rfl rfl rfl EE (Z ?_);refine Yc rfl rfl rfl EE (Z ?_);refine Zr GN (vs:=[.pointer (some ((dN c.M).add 1)),_,.int .i64 2]) rfl (WZ ok GN rfl (by rfl)) ?_;rintro v _ ⟨rfl,rfl⟩;refine Z ?_;refine Zr OR (vs:=[]) rfl (WY ok OR XN (by simp[Vb,cd])) ?_;rintro v _ ⟨⟨z2,rfl⟩,rfl⟩;refine Z ?_;refine Zo rfl rfl (.inr (.inr (.inr rfl))) rfl (Z ?_);refine Yd rfl rfl rfl ?_;intro b3 _;refine Z ?_;cases b3
  ·refine Z ?_;refine Vd rfl (LA (M:=m) ok tK rfl (by rfl)) ?_;rintro v _ (⟨L2,n2,m2,fH,rfl,rfl,hm⟩ | ⟨n2,fH,xY,rfl,rfl⟩)
   ·refine Z ?_;refine Zo rfl rfl (.inl rfl) fH.jG (Z ?_);refine Z8 rfl rfl rfl (by simp) (Z ?_);exact⟨⟨true,false,0,yM,L2,1,0,n2,m2⟩,by simp only;omega,⟨fH,by simp only;omega,λe=>by simp at e,λ_=>⟨rfl,rfl,rfl⟩⟩,V,trivial,rfl⟩
   refine Z ?_;refine Zo rfl rfl (.inl rfl) fH.jG (Z ?_);refine YT rfl rfl rfl (by simp) (Z ?_);refine Zo rfl rfl (.inl rfl) fH.u7 (Z ?_);refine Z8 rfl rfl rfl (by simp) (Z ?_);refine Vq rfl rfl (.inl rfl) (by decide) fH.nN (Z ?_);refine Yc rfl rfl rfl O (Z ?_);refine Zo rfl rfl (.inr (.inr (.inr rfl))) (v:=.int .i32 (-11)) rfl (Z ?_);refine Zr YX (vs:=[ptr c.M,.int .i32 (-11)]) rfl (OV ok YX fH xY true (λe=>by simp at e) (by rfl)) ?_;rintro v _ ⟨⟨z,rfl⟩,rfl⟩;refine Z ?_;refine Zr Yj (vs:=[]) rfl (OW ok Yj (by rfl)) ?_;rintro v _ ⟨rfl,rfl⟩;refine Z ?_;refine VE rfl (UV ok Oi rfl (.inl rfl) (.inl (by simp[Vb,cd]))) ?_;rintro v _ ⟨rfl,rfl⟩;refine Z ?_;refine Zr YH (vs:=[ptr c.M]) rfl (OU ok YH rfl) ?_;rintro v _ ⟨rfl,l,Hl,h1,h2,h3,h4,h5,rfl⟩;refine Z ?_;exact⟨l,Hl,h1,h2,h3,h4,h5,rfl⟩
  refine Z ?_;refine Vd rfl (LA (M:=m) ok tK rfl (by rfl)) ?_;rintro v _ (⟨L2,n2,m2,fH,rfl,rfl,hm⟩ | ⟨n2,fH,xY,rfl,rfl⟩)
  ·refine Z ?_;refine Zo rfl rfl (.inl rfl) fH.jG (Z ?_);refine Z8 rfl rfl rfl (by simp) (Z ?_);exact⟨⟨true,true,0,yM,L2,1,0,n2,m2⟩,by simp only;omega,⟨fH,by simp only;omega,λe=>by simp at e,λ_=>⟨rfl,rfl,rfl⟩⟩,V,trivial,rfl⟩
  refine Z ?_;refine Zo rfl rfl (.inl rfl) fH.jG (Z ?_);refine YT rfl rfl rfl (by simp) (Z ?_);refine Zo rfl rfl (.inl rfl) fH.u7 (Z ?_);refine Z8 rfl rfl rfl (by simp) (Z ?_);refine Vq rfl rfl (.inl rfl) (by decide) fH.nN (Z ?_);refine Yc rfl rfl rfl O (Z ?_);refine Vq rfl rfl (.inl rfl) (by decide) fH.nN (Z ?_);by_cases h1:n2=1
  ·refine YA rfl rfl rfl O (Z ?_);refine Zo rfl rfl (.inr (.inr (.inr rfl))) (v:=.int .i32 (-11)) rfl (Z ?_);refine Zr YX (vs:=[ptr c.M,.int .i32 (-11)]) rfl (OV ok YX fH xY true (λe=>by simp at e) (by rfl)) ?_;rintro v _ ⟨⟨z,rfl⟩,rfl⟩;refine Z ?_;refine Zr Yj (vs:=[]) rfl (OW ok Yj (by rfl)) ?_;rintro v _ ⟨rfl,rfl⟩;refine Z ?_;refine VE rfl (UV ok Oi rfl (.inl rfl) (.inl (by simp[Vb,cd]))) ?_;rintro v _ ⟨rfl,rfl⟩;refine Z ?_;refine Zr YH (vs:=[ptr c.M]) rfl (OU ok YH rfl) ?_;rintro v _ ⟨rfl,l,Hl,h1,h2,h3,h4,h5,rfl⟩;refine Z ?_;exact⟨l,Hl,h1,h2,h3,h4,h5,rfl⟩
  refine Yc rfl rfl rfl O (Z ?_);refine Zr YX (vs:=[ptr c.M,.int .i32 (-7)]) rfl (OV ok YX fH xY false (λ_=>h1) (by rfl)) ?_;rintro v _ ⟨⟨z,rfl⟩,rfl⟩;refine Z ?_;refine Zr Yj (vs:=[]) rfl (OW ok Yj (by rfl)) ?_;rintro v _ ⟨rfl,rfl⟩;refine Z ?_;refine VE rfl (UV ok Oi rfl (.inl rfl) (.inl (by simp[Vb,cd]))) ?_;rintro v _ ⟨rfl,rfl⟩;refine Z ?_;refine Zr YH (vs:=[ptr c.M]) rfl (OU ok YH rfl) ?_;rintro v _ ⟨rfl,l,Hl,h1,h2,h3,h4,h5,rfl⟩;refine Z ?_;exact⟨l,Hl,h1,h2,h3,h4,h5,rfl⟩):G:=h
structure LkI where
 aw:Bool
 st:Bool
 it:Int
 ws:Int
 L:Nat
 W:Nat
 S:Nat
 n:Nat
 m:Nat
theorem MF{P:PQ}{α:Type}{a:α}{Q:α->Bool->Hp->Prop}{H:Hp}(h:Q a g H):cD P (pure a) Q g H:=h
theorem ZgD{P:PQ}{it:Int}{Q:Value->Bool->Hp->Prop}{H:Hp}(hs:P.still H.gh=false)(h:∀b:Bool,(b=true->it<4)->Q (.bool b) g H):cD P (Extern.Sync.canSpin #[.int .i64 it]) Q g H:=by
 rw[Go.Conc.canSpin_eq];split
 ·exact h false (by simp)
 rename_i hn;have bV:it<4:=O;rw[Zh];have key:∀(t:Nat),cD P (pure (.bool (decide (t=1)))) Q g H:=λt=>h _ λ_=>bV;show cD P (.choose _ _) _ g H;simp only[cD];split
 ·exact key _
 exact⟨hs,λt=>key _⟩
section
variable{P:bF}{d:Option Nat}{next:aN->Hp->Prop}{σ:aN}{H:Hp}{x y:Operand}
theorem No{m n r:Int}(e1:σ.get x=some (.int .i32 m))(e2:σ.get y=some (.int .i32 n))(hr:IntKind.i32.wrap (m+n)=r)(h:next (σ.set d (.int .i32 r)) H):(bC.bQ .add x y).m P d next σ H:=
 Yd e1 e2 rfl (by subst hr;exact h)
end
section
variable{c:Cx}{i:Nat}
theorem Zud(ok:c.Ok)(H:Hp)(hg:H.cg=[3]):LL.Zc (pw c i) 229 #[ptr c.M] H λ_ H'=>Dp c i H H':=by
 refine aO.m (P:=pw c i) Zwc (args:=[ptr c.M]) rfl ?_;unfold Zjv;refine Z ?_;refine Vd rfl (WV (M:=0) ok tK rfl (.inl hg)) ?_;rintro v _ ⟨L0,W0,S0,n0,m0,hB0,rfl,rfl,_,_⟩;refine Z ?_;refine S6 (λ(j:LkI) H'=>dB j.L j.W j.S j.n/\(0<=j.it/\j.it<=4)/\(j.aw=false->j.st=false/\H'=H.tagc [4,bR j.L j.W j.S j.n,j.m])/\(j.aw=true->j.W=1/\j.S=0/\H'=H.tagc [6,bR j.L j.W j.S j.n,j.m]))
  (λj=>j.m * 8+(5-j.it).toNat) (λj=>[(0,ptr c.M),(2,.int .i64 j.ws),(3,.bool j.st),(4,.bool j.aw),(5,.int .i64 j.it),(6,.int .i32 (bR j.L j.W j.S j.n:Nat))]) (λ_=>[]) ⟨false,false,0,0,L0,W0,S0,n0,m0⟩
  ⟨hB0,by simp,λ_=>⟨rfl,rfl⟩,λe=>by simp at e⟩ V trivial ?_
 rintro⟨aw,st,it,yM,L,W,S,n,m⟩ H' ⟨hB,x8,QQ,QP⟩;simp only at hB x8 QQ QP;refine Z ?_;refine Zo rfl rfl (.inl rfl) hB.pF (Z ?_);have Ev:True:=trivial;cases aw with
 | false=>
  obtain⟨rfl,rfl⟩:=QQ rfl;by_cases Wo:L=1/\S=0
  ·obtain⟨rfl,rfl⟩:=Wo;refine YA rfl rfl rfl (by simp) (Z ?_);refine OE ZmQ (vs:=[.int .i64 it]) rfl (ZgD rfl ?_);intro b hb;cases b
   ·refine Z ?_;refine Zo rfl rfl (.inl rfl) hB.jG (Z ?_);refine YA rfl rfl rfl (by simp) (Z ?_);refine Zo rfl rfl (.inr (.inl rfl)) hB.KM (Z ?_);refine Zo rfl rfl (.inl rfl) hB.pF (Z ?_);refine YT rfl rfl rfl (by simp) (Z ?_);refine No rfl rfl hB.CK (Z ?_);refine Zr YG (vs:=[ptr c.M,.int .i32 (bR 1 W 0 n:Nat),.int .i32 (bR 1 W 0 (n+1):Nat)]) rfl (Znt (M:=m) ok YG hB O (by rfl)) ?_;rintro v _ (⟨rfl,rfl⟩ | ⟨rfl,rfl⟩)
    ·exact Mj
    exact Ml
   have Ia:=hb rfl;refine Z ?_;refine Zo rfl rfl (.inl rfl) hB.vA (Z ?_);rcases yU hB.W with rfl | rfl
   ·refine YA rfl rfl rfl (by simp) (Z ?_);refine Vq rfl rfl (.inl rfl) (by decide) hB.nN (Z ?_);by_cases hn:n=0
    ·refine Z8 rfl rfl rfl (by simpa using hn) ?_;exact Zin
    refine YT rfl rfl rfl (by simpa using hn) (Z ?_);refine Zo rfl rfl (.inr (.inl rfl)) hB.TP (Z ?_);refine Zr YG (vs:=[ptr c.M,.int .i32 (bR 1 0 0 n:Nat),.int .i32 (bR 1 1 0 n:Nat)]) rfl (ZyO (M:=m) ok YG hB (by rfl)) ?_;rintro v _ (⟨rfl,rfl⟩ | ⟨rfl,rfl⟩)
    ·refine Z ?_;refine Z ?_;refine OE Au (vs:=[]) rfl ?_;refine(MF ?_);refine Z ?_;refine Yd rfl rfl rfl ⟨by unfold wC;simp only;omega,?_⟩;refine Z ?_;refine Vd rfl (WW (M:=m) ok tK rfl (.inl rfl)) ?_;rintro v _ ⟨L2,n2,m2,fH,rfl,rfl,hm,_⟩;have hm:=hm rfl;refine Z ?_;exact⟨⟨true,false,(it+1),yM,L2,1,0,n2,m2⟩,by simp only;omega,⟨fH,by simp only;omega,λe=>by simp at e,λ_=>⟨rfl,rfl,rfl⟩⟩,V,trivial,rfl⟩
    refine Z ?_;refine Z ?_;refine OE Au (vs:=[]) rfl ?_;refine(MF ?_);refine Z ?_;refine Yd rfl rfl rfl ⟨by unfold wC;simp only;omega,?_⟩;refine Z ?_;refine Vd rfl (WV (M:=m) ok tK rfl (.inr (.inl rfl))) ?_;rintro v _ ⟨L2,W2,S2,n2,m2,fH,rfl,rfl,hm,_⟩;have hm:=hm rfl;refine Z ?_;exact⟨⟨false,false,(it+1),yM,L2,W2,S2,n2,m2⟩,by simp only;omega,⟨fH,by simp only;omega,λ_=>⟨rfl,rfl⟩,λe=>by simp at e⟩,V,trivial,rfl⟩
   refine Yc rfl rfl rfl (by simp) ?_;exact Zin
  refine Yc rfl rfl rfl O (Z ?_);rcases yU hB.S with rfl | rfl
  ·have hL0:L=0:=by have:=hB.L;omega
   subst hL0;refine Zo rfl rfl (.inl rfl) hB.jG (Z ?_);refine YA rfl rfl rfl (by simp) (Z ?_);refine Zo rfl rfl (.inr (.inl rfl)) hB.KM (Z ?_);refine Zo rfl rfl (.inl rfl) hB.pF (Z ?_);refine Z8 rfl rfl rfl (by simp) (Z ?_);refine Zr YG (vs:=[ptr c.M,.int .i32 (bR 0 W 0 n:Nat),.int .i32 (bR 1 W 0 n:Nat)]) rfl (ZyN (M:=m) ok YG hB (by rfl)) ?_;rintro v _ (⟨rfl,rfl⟩ | ⟨rfl,rfl⟩)
   ·exact Mm
   exact Ml
  refine Zo rfl rfl (.inl rfl) hB.jG (Z ?_);refine Yc rfl rfl rfl (by simp) (Z ?_);refine Zo rfl rfl (.inl rfl) hB.pF (Z ?_);refine YT rfl rfl rfl O (Z ?_);refine No rfl rfl hB.CK (Z ?_);refine Zr YG (vs:=[ptr c.M,.int .i32 (bR L W 1 n:Nat),.int .i32 (bR L W 1 (n+1):Nat)]) rfl (Znt (M:=m) ok YG hB O (by rfl)) ?_;rintro v _ (⟨rfl,rfl⟩ | ⟨rfl,rfl⟩)
  ·exact Mj
  exact Ml
 | true=>
  obtain⟨rfl,rfl,rfl⟩:=QP rfl;rcases yU hB.L with rfl | rfl
  ·refine Yc rfl rfl rfl (by simp) (Z ?_);refine Zo rfl rfl (.inl rfl) hB.jG (Z ?_);refine YA rfl rfl rfl (by simp) (Z ?_);refine Zo rfl rfl (.inr (.inl rfl)) hB.KM (Z ?_);refine Zo rfl rfl (.inl rfl) hB.pF (Z ?_);have vV:dB 1 1 0 n:=⟨O,O,O,hB.n⟩;refine Z8 rfl rfl rfl (by simp) ?_;cases st
   ·refine Z ?_;refine Zo rfl rfl (.inl rfl) vV.vA (Z ?_);refine Yc rfl rfl rfl (by simp) (Z ?_);refine Zo rfl rfl (.inr (.inr (.inl rfl))) vV.xP (Z ?_);refine Zr YG (vs:=[ptr c.M,.int .i32 (bR 0 1 0 n:Nat),.int .i32 (bR 1 0 0 n:Nat)]) rfl (Znr (M:=m) ok YG hB (by rfl)) ?_;rintro v _ (⟨rfl,rfl⟩ | ⟨rfl,rfl⟩)
    ·exact Mm
    exact Zim
   refine Z ?_;refine Zo rfl rfl (.inl rfl) hB.CJ (Z ?_);refine Z8 rfl rfl rfl (by simp) (Z ?_);refine Zo rfl rfl (.inl rfl) vV.vA (Z ?_);refine Yc rfl rfl rfl (by simp) (Z ?_);refine Zo rfl rfl (.inr (.inr (.inl rfl))) vV.xP (Z ?_);refine Zr YG (vs:=[ptr c.M,.int .i32 (bR 0 1 0 n:Nat),.int .i32 (bR 1 0 0 n:Nat)]) rfl (Znr (M:=m) ok YG hB (by rfl)) ?_;rintro v _ (⟨rfl,rfl⟩ | ⟨rfl,rfl⟩)
   ·exact Mm
   exact Zil
  refine YA rfl rfl rfl (by simp) (Z ?_);refine OE ZmQ (vs:=[.int .i64 it]) rfl (ZgD rfl ?_);intro b hb;cases b
  ·refine Z ?_;refine Zo rfl rfl (.inl rfl) hB.jG (Z ?_);refine YA rfl rfl rfl (by simp) (Z ?_);refine Zo rfl rfl (.inr (.inl rfl)) hB.KM (Z ?_);refine Zo rfl rfl (.inl rfl) hB.pF (Z ?_);have vV:dB 1 1 0 n:=⟨O,O,O,hB.n⟩;refine YT rfl rfl rfl (by simp) (Z ?_);refine No rfl rfl hB.CK ?_;have BX:YO 1 1 0 (n+1):=⟨O,O,O,by have:=hB.n;omega⟩;have Wv:YO 1 1 1 (n+1):=⟨O,O,O,by have:=hB.n;omega⟩;cases st
   ·refine Z ?_;refine Zo rfl rfl (.inl rfl) BX.vA (Z ?_);refine Yc rfl rfl rfl (by simp) (Z ?_);refine Zo rfl rfl (.inr (.inr (.inl rfl))) BX.xP (Z ?_);refine Zr YG (vs:=[ptr c.M,.int .i32 (bR 1 1 0 n:Nat),.int .i32 (bR 1 0 0 (n+1):Nat)]) rfl (Zns (M:=m) ok YG false hB (by rfl)) ?_;rintro v _ (⟨rfl,rfl⟩ | ⟨rfl,rfl⟩)
    ·exact Mj
    exact Zim
   refine Z ?_;refine Zo rfl rfl (.inl rfl) hB.CJ (Z ?_);refine YT rfl rfl rfl (by simp) (Z ?_);refine Zo rfl rfl (.inr (.inl rfl)) BX.or4 (Z ?_);refine Zo rfl rfl (.inl rfl) Wv.vA (Z ?_);refine Yc rfl rfl rfl (by simp) (Z ?_);refine Zo rfl rfl (.inr (.inr (.inl rfl))) Wv.xP (Z ?_);refine Zr YG (vs:=[ptr c.M,.int .i32 (bR 1 1 0 n:Nat),.int .i32 (bR 1 0 1 (n+1):Nat)]) rfl (Zns (M:=m) ok YG true hB (by rfl)) ?_;rintro v _ (⟨rfl,rfl⟩ | ⟨rfl,rfl⟩)
   ·refine Z ?_;refine Z ?_;refine Zo rfl rfl (.inl rfl) hB.pF (Z ?_);refine Yc rfl rfl rfl O (Z ?_);by_cases EE:yM=0
    ·refine Z8 rfl rfl rfl EE (Z ?_);refine YA rfl rfl rfl EE (Z ?_);refine Zr OR (vs:=[]) rfl (WY ok OR XN (by simp[Vb,cd])) ?_;rintro v _ ⟨⟨z1,rfl⟩,rfl⟩;refine Z ?_;refine Zr GN (vs:=[.pointer (some ((dN c.M).add 1)),_,.int .i64 2]) rfl (WZ ok GN rfl (by rfl)) ?_;rintro v _ ⟨rfl,rfl⟩;refine Z ?_;refine Vd rfl (LA (M:=m) ok tK rfl (by rfl)) ?_;rintro v _ (⟨L2,n2,m2,fH,rfl,rfl,hm⟩ | ⟨n2,fH,xY,rfl,rfl⟩)
     ·refine Z ?_;refine Zo rfl rfl (.inl rfl) fH.jG (Z ?_);refine Z8 rfl rfl rfl (by simp) (Z ?_);exact⟨⟨true,true,0,z1,L2,1,0,n2,m2⟩,by simp only;omega,⟨fH,by simp only;omega,λe=>by simp at e,λ_=>⟨rfl,rfl,rfl⟩⟩,V,trivial,rfl⟩
     exact Zio
    refine YT rfl rfl rfl EE (Z ?_);refine Yc rfl rfl rfl EE (Z ?_);refine Zr GN (vs:=[.pointer (some ((dN c.M).add 1)),_,.int .i64 2]) rfl (WZ ok GN rfl (by rfl)) ?_;rintro v _ ⟨rfl,rfl⟩;refine Z ?_;refine Vd rfl (LA (M:=m) ok tK rfl (by rfl)) ?_;rintro v _ (⟨L2,n2,m2,fH,rfl,rfl,hm⟩ | ⟨n2,fH,xY,rfl,rfl⟩)
    ·refine Z ?_;refine Zo rfl rfl (.inl rfl) fH.jG (Z ?_);refine Z8 rfl rfl rfl (by simp) (Z ?_);exact⟨⟨true,true,0,yM,L2,1,0,n2,m2⟩,by simp only;omega,⟨fH,by simp only;omega,λe=>by simp at e,λ_=>⟨rfl,rfl,rfl⟩⟩,V,trivial,rfl⟩
    exact Zio
   exact Zil
  have Ia:=hb rfl;refine Z ?_;refine Z ?_;refine OE Au (vs:=[]) rfl ?_;refine(MF ?_);refine Z ?_;refine Yd rfl rfl rfl ⟨by unfold wC;simp only;omega,?_⟩;refine Z ?_;refine Vd rfl (WW (M:=m) ok tK rfl (.inr ⟨_,rfl⟩)) ?_;rintro v _ ⟨L2,n2,m2,fH,rfl,rfl,_,hm⟩;have hm:=hm ⟨_,rfl⟩;refine Z ?_;exact⟨⟨true,st,(it+1),yM,L2,1,0,n2,m2⟩,by simp only;omega,⟨fH,by simp only;omega,λe=>by simp at e,λ_=>⟨rfl,rfl,rfl⟩⟩,V,trivial,rfl⟩
end
end
end Go.Proofs
end
section
open Go Go.LL
namespace Go.LL
section
variable{ty:TypeId}{n v wt:Nat}{f:FuncId}{vs:List Value}{K:Hp->Prop}{ds:List Deferred}
section
variable{P:bF}{d:Option Nat}{next:aN->Hp->Prop}{σ:aN}{H:Hp}{x y:Operand}
theorem U9{t t2:TypeId}{k k2:IntKind}{n r:Int}(h1:(P.underlying t).isSome=true)(h2:P.underlying t2=some (.int k2))(e:σ.get x=some (.int k n))(hr:k2.wrap n=r)(h:next (σ.set d (.int k2 r)) H):(bC.raw (.convert t t2 x) ty).m P d next σ H:=by
 obtain⟨dt,hd⟩:=qBi.mp h1;refine⟨by simp[Op.operands,e],.inl ?_⟩;have:execOp (λx=>(σ.get x).getD undef) (aP (.convert t t2 x) ty)=(do pure (.value (<-convert t t2 (.int k n))):Sem Next):=by simp[execOp,aP,e]
 rw[this,Zh];simp only[convert,Zh,Zy hd,Zy h2,Conv.intToInt];subst hr;exact .inr h
theorem Np{xs:Array Operand}{ts:Array TypeId}(ha:σ.gets xs.toList=some vs)(h:next ({ σ with cX:={ target:=.fn (.func f) #[],args:=vs.toArray } :: σ.cX }.set d undef) H) :
  (bC.raw (.defer { callee:=.value (.func f),args:=xs,argTypes:=ts }) ty).m P d next σ H:=by
 obtain⟨h1,h2⟩:=Of ha;refine⟨Lc h2,.inl ?_⟩;have:execOp (λx=>(σ.get x).getD undef) (aP (.defer { callee:=.value (.func f),args:=xs,argTypes:=ts }) ty)=pure (.defer { target:=.fn (.func f) #[],args:=vs.toArray }):=by obtain⟨xs⟩:=xs;have e:(σ.get (.func f)).getD undef=.func (.func f) #[] #[]:=rfl;simp[execOp,aP,resolve,Deferred.ofValue,e,qBl,h1]
 rw[this];exact .inr ⟨rfl,rfl,h⟩
theorem Nc{rs:List Zf}{Post:Value->Hp->Prop}(hc:rs.any Zf.cell=false)(hv:U6 σ rs=some vs)(h:Uj P σ.cX (Post (YR vs)) H):VK P rs Post σ H:=by unfold VK KF;exact Uj.imp (λH h=>⟨λe=>by rw[hc]at e;simp at e,vs,Bi hv,h⟩) h
theorem Zi4{vs:Array Value}(hv:Uz P.toProgram (callFunc f vs))(h:Zm P (callFunc f vs) false false H λ_ H'=>Uj P ds K H'):Uj P ({ target:=.fn (.func f) #[],args:=vs } :: ds) K H:=by
 refine⟨rfl,.inr ?_⟩;have:invoke (.fn (.func f) #[]) vs=callFunc f vs:=by simp[invoke]
 rw[this];exact⟨hv,h⟩
theorem Zty{fn:Func}{vs:Array Value}(hf:P.funcs[f]? = some fn)(hb:fn.body.isSome=true)(hn:(fn.name == "runtime.NumGoroutine")=false)(h:Y2 P .deferred f vs H λ_ H'=>Uj P ds K H') :
  Uj P ({ target:=.fn (.func f) #[],args:=vs } :: ds) K H:=by
 refine⟨rfl,.inl ?_⟩;have mC:fn.body.isNone=false:=by simpa using hb
 have:invoke (.fn (.func f) #[]) vs=callFunc f vs:=by simp[invoke]
 rw[this];simp only[callFunc,Zh,VZ,hf,hn,mC,iN,qAk];exact h
end
theorem Zys(v wt m:Nat)(h1:wt<4294967296)(hm:m<4294967296):jQ v wt &&& m=wt &&& m:=by
 refine qCe λi=>?_;rw[qBR,qBR,show jQ v wt=2 ^ 32 * v+wt by unfold jQ;omega,qBD _ (show wt<2 ^ 32 from h1)];by_cases h:i<32
 ·simp[h]
 have:m.testBit i=false:=qBV (qAz hm (by rw[show(4294967296:Nat)=2 ^ 32 from rfl];exact qBe (by decide) O));simp[this]
theorem Zi3(x:Nat)(hx:x<18446744073709551616):(BitVec.ofInt 64 (x:Nat)).toNat=x:=by simp[qCp];omega
theorem ZgG{m:Nat}(hv:v<=100000002)(h1:wt<=1)(hm:m<4294967296):ZB .and .u64 (jQ v wt:Nat) (m:Nat)=.int .u64 ((wt &&& m:Nat):Int):=by
 have eP:jQ v wt<18446744073709551616:=by unfold jQ;omega
 have gG:m<18446744073709551616:=O;have kK:wt &&& m<=wt:=Nat.and_le_left;show Value.int .u64 (IntKind.u64.wrap ((BitVec.ofInt 64 (jQ v wt:Nat) &&& BitVec.ofInt 64 (m:Nat)).toNat:Nat))=_;rw[qCd,Zi3 _ eP,Zi3 _ gG,Zys v wt m O hm,Pj O O]
theorem Cf(hv:v<=100000002)(h1:wt<=1):ZB .and .u64 (jQ v wt:Nat) 2147483648=.int .u64 (0:Nat):=by refine(ZgG (m:=2147483648) hv h1 (by decide)).trans ?_;rcases yU h1 with rfl | rfl<;>rfl
theorem Qo(hv:v<=100000002)(h1:wt<=1):ZB .and .u64 (jQ v wt:Nat) 2147483647=.int .u64 (wt:Nat):=by refine(ZgG (m:=2147483647) hv h1 (by decide)).trans ?_;rcases yU h1 with rfl | rfl<;>rfl
theorem Qn(h1:wt<=1):ZB .shr .u64 (jQ v wt:Nat) 32=.int .u64 (v:Nat):=by show Value.int .u64 (Int.fdiv (jQ v wt:Nat) (2 ^ min (Int.toNat (32:Int)) 64))=_;have:(2:Int) ^ min (Int.toNat (32:Int)) 64=4294967296:=rfl;rw[this,qBI _ O];congr 1;unfold jQ;omega
theorem Pl(h:n<=100000002):IntKind.i32.wrap (n:Nat)=(n:Nat):=O1 O O
theorem Pm(h:n<=1):IntKind.u32.wrap (n:Nat)=(n:Nat):=by rcases yU h with rfl | rfl<;>rfl
end
end Go.LL
end
section
open Go Go.LL
namespace Go.Proofs
section
variable{v:Value}
theorem Zuc{c:Cx}{i:Nat}(ok:c.Ok){H:Hp}(iA:c.need H.hd=true)(hg:H.cg=[1]):LL.Zc (pw c i) 150 #[ptr c.M] H λ_ H'=>Dp c i H H':=by refine aO.m (P:=pw c i) Zxp (args:=[ptr c.M]) rfl ?_;unfold ZkI;refine Z ?_;refine Za (vs:=[ptr c.M]) rfl (Zue ok iA (λH hg=>Zud ok H hg) hg) ?_;rintro v H' h;refine Z ?_;exact h
theorem u3:(Tryz.prog.underlying 3).isSome=true:=U
theorem ZgO:Tryz.prog.underlying 189=some (.int .u64):=U
theorem MA:(Tryz.prog.underlying 189).isSome=true:=U
theorem TJ:Tryz.prog.underlying 21=some (.int .i32):=U
theorem Qh:Tryz.prog.underlying 182=some (.int .u32):=U
section
variable{P:bF}{H:Hp}{Post:Value->Hp->Prop}{b:Nat}
theorem ZgH(hP:P.toProgram=Tryz.prog)(h:Zm P (callFunc 225 #[ptr b,v]) true false H Post):LL.Zc P 191 #[ptr b,v] H Post:=by refine aO.m (P:=P) (by rw[hP];exact Zwv) (args:=[ptr b,v]) rfl ?_;unfold ZjO;refine Z ?_;refine Zr (hP ▸ Lo) (vs:=[ptr b,v]) rfl h ?_;intro v H' hv;refine Z ?_;exact hv
theorem Ql(hP:P.toProgram=Tryz.prog)(h:Zm P (callFunc 226 #[ptr b]) true false H Post):LL.Zc P 193 #[ptr b] H Post:=by refine aO.m (P:=P) (by rw[hP];exact Zwu) (args:=[ptr b]) rfl ?_;unfold ZjN;refine Z ?_;refine Zr (hP ▸ XD) (vs:=[ptr b]) rfl h ?_;intro v H' hv;refine Z ?_;exact hv
theorem Zn1(hP:P.toProgram=Tryz.prog)(h:Zm P (callFunc 227 #[ptr b,v]) true false H λ_ H'=>Post Zu H'):LL.Zc P 194 #[ptr b,v] H Post:=by refine aO.m (P:=P) (by rw[hP];exact Zwt) (args:=[ptr b,v]) rfl ?_;unfold ZjM;refine Z ?_;refine Zr (hP ▸ ZmS) (vs:=[ptr b,v]) rfl h ?_;intro v H' hv;refine Z ?_;exact hv
theorem Zn0(hP:P.toProgram=Tryz.prog){u:Value}(h:Zm P (callFunc 232 #[ptr b,u,v]) true false H Post):LL.Zc P 202 #[ptr b,u,v] H Post:=by refine aO.m (P:=P) (by rw[hP];exact Zwq) (args:=[ptr b,u,v]) rfl ?_;unfold ZjJ;refine Z ?_;refine Zr (hP ▸ ZmR) (vs:=[ptr b,u,v]) rfl h ?_;intro v H' hv;refine Z ?_;exact hv
end
theorem ZgI:Uz Tryz.prog (callFunc 186 #[]):=λw=>⟨_,_,_,SJ (by simp) Yj #[] w⟩
end
section
variable{kd:CallKind}{H:Hp}{n:Nat}
section
variable{c:Cx}{i:Nat}
noncomputable abbrev pm(c:Cx):bF:=(bG Tryz.prog c).prgM
theorem ZyE(ok:c.Ok)(kL:kd=.normal\/kd=.deferred)(hg:H.cg=[19,1]):Y2 (pw c i) kd 147 #[ptr c.W,.int .i64 (-1)] H λ_ H'=>H'=H.tagged (lv 0):=by
 have jE:Yw H.cg:=.inl (by rw[hg];simp[cd]);refine aO.mK (P:=pw c i) kL Znh (args:=[ptr c.W,.int .i64 (-1)]) rfl ?_;unfold Ng;refine Z ?_;refine Ztd rfl rfl rfl (by decide) (Z ?_);refine VE rfl (UV ok Lg rfl (.inr rfl) jE) ?_;rintro v H1 ⟨rfl,e⟩;rw[e];refine Z ?_;refine Zr XC (vs:=[ptr c.W]) rfl (ZyH ok XC hg) ?_;rintro v _ ⟨rfl,rfl⟩;refine Z ?_;refine Zr UU (vs:=[]) rfl (ZuM ok UU (by rfl)) ?_;rintro v _ ⟨rfl,rfl⟩;refine Z ?_;refine Np (vs:=[]) rfl (Z ?_);refine OE ZmX (vs:=[]) rfl ?_;refine MF (Z ?_);refine U9 u3 ZgO rfl (r:=18446744073709551615) rfl (Z ?_);refine Vq rfl rfl (.inr rfl) (by decide) (v:=.int .u64 18446744069414584320) rfl (Z ?_);refine Za (vs:=[ptr c.W,.int .u64 18446744069414584320]) rfl (ZgH rfl (ZuN ok Lo (by rfl))) ?_;rintro v H' ⟨n,wt,hn,nF,rfl,WL⟩;refine Z ?_;refine Zo rfl rfl (.inl rfl) (Cf O nF) (Z ?_);refine Z8 rfl rfl rfl rfl (Z ?_);refine Vq rfl rfl (.inl rfl) (by decide) (Qn nF) (Z ?_);refine U9 MA TJ rfl (Pl O) (Z ?_);refine Zo rfl rfl (.inl rfl) (Qo O nF) (Z ?_);refine U9 MA Qh rfl (Pm nF) (Z ?_);refine XS rfl rfl rfl (by decide) (Z ?_);refine XU rfl rfl rfl O (Z ?_);have gL:∀{rs:List Zf} {σ:aN} {H1:Hp},H1=H.tagged (lv 1)->σ.cX=[{ target:=.fn (.func 186) #[],args:=#[] }]->U6 σ rs=some []->rs.any Zf.cell=false->VK (pw c i) rs (λ_ H'=>H'=H.tagged (lv 0)) σ H1:=by rintro rs σ H1 rfl hd hr hc;refine Nc hc hr ?_;rw[hd];refine Zi4 ZgI ((Zt9 Yj rfl).mono ?_);rintro v _ ⟨_,rfl⟩;rfl
 by_cases hw:wt=0
 ·subst hw;have Wq:H'=H.tagged (lv 1):=by
   rcases WL with⟨_,h⟩ | ⟨_,h,_⟩
   ·exact h
   simp at h
  refine Z8 rfl rfl rfl rfl (Z ?_);by_cases hv:n=0
  ·refine XS rfl rfl rfl O (Z ?_);refine YA rfl rfl rfl rfl (Z ?_);exact Ob (gL Wq rfl rfl rfl)
  refine R9 rfl rfl rfl O (Z ?_);exact Ob (gL Wq rfl rfl rfl)
 have TZ:wt=1:=O;subst TZ;refine YT rfl rfl rfl (by simp) (Z ?_);refine XS rfl rfl rfl (by decide) (Z ?_);rcases WL with⟨h1,rfl⟩ | ⟨rfl,_,rfl⟩
 ·have hv:n≠0:=O;refine R9 rfl rfl rfl O (Z ?_);exact Ob (gL rfl rfl rfl rfl)
 refine XS rfl rfl rfl (by decide) (Z ?_);refine Yc rfl rfl rfl (by decide) (Z ?_);refine Za (vs:=[ptr c.W]) rfl (Ql rfl (ZuL ok XD (by rfl))) ?_;rintro v _ ⟨rfl,rfl⟩;refine Z ?_;refine Z8 rfl rfl rfl rfl (Z ?_);refine Za (Post:=λv H'=>v=Zu/\H'=H.tagc [24]) (vs:=[ptr c.W,.int .u64 0]) rfl (Zn1 rfl ((ZuJ ok ZmS (by rfl)).mono λv H hv=>⟨rfl,hv.2⟩)) ?_;rintro v _ ⟨rfl,rfl⟩;refine Z ?_;refine S6 (λ(j:Nat) H'=>(j=1/\H'=H.tagc [24])\/(j=0/\H'=H.tagged (lv 1))) id (λj=>[(0,ptr c.W),(8,.int .u32 (j:Nat))]) (λ_=>[]) 1 (.inl ⟨rfl,rfl⟩) V trivial ?_;rintro j H1 (⟨rfl,rfl⟩ | ⟨rfl,rfl⟩)
 ·refine Z ?_;refine YT rfl rfl rfl (by decide) (Z ?_);refine Zr ZmV (vs:=[.pointer (some ((dN c.W).add 1)),.bool false,.int .i64 0]) rfl (ZuK ok ZmV rfl (by rfl)) ?_;rintro v _ ⟨rfl,rfl⟩;refine Z ?_;refine Zo rfl rfl (.inr (.inr (.inr rfl))) (v:=.int .u32 (0:Nat)) rfl (Z ?_);exact⟨0,by simp,.inr ⟨rfl,rfl⟩,V,trivial,rfl⟩
 refine Z ?_;refine Z8 rfl rfl rfl rfl (Z ?_);exact MK (gL rfl rfl rfl rfl)
theorem Zvw(ok:c.Ok)(kL:kd=.normal\/kd=.deferred)(hg:H.cg=[19,1]):Y2 (pw c i) kd 149 #[ptr c.W] H λ_ H'=>H'=H.tagged (lv 0):=by refine aO.mK (P:=pw c i) kL ZxA (args:=[ptr c.W]) rfl ?_;unfold ZkT;refine Z ?_;refine Za (vs:=[ptr c.W,.int .i64 (-1)]) rfl (ZyE ok (.inl rfl) hg).pE ?_;rintro v _ rfl;refine Z ?_;rfl
theorem ZyF(ok:c.Ok)(hg:H.cg=[30,n]):LL.Zc (pm c) 147 #[ptr c.W,.int .i64 1] H λ_ H'=>H'=H.tagc [33,n]:=by
 refine aO.m (P:=pm c) Znh (args:=[ptr c.W,.int .i64 1]) rfl ?_;unfold Ng;refine Z ?_;refine XU rfl rfl rfl (by decide) (Z ?_);refine Zr UU (vs:=[]) rfl (Zt4 ok UU hg) ?_;rintro v _ ⟨rfl,rfl⟩;refine Z ?_;refine Np (vs:=[]) rfl (Z ?_);refine OE ZmX (vs:=[]) rfl ?_;refine MF (Z ?_);refine U9 u3 ZgO rfl (r:=1) rfl (Z ?_);refine Vq rfl rfl (.inr rfl) (by decide) (v:=.int .u64 4294967296) rfl (Z ?_);refine Za (vs:=[ptr c.W,.int .u64 4294967296]) rfl (ZgH rfl (Zt7 ok Lo (n:=n) (by rfl))) ?_;rintro v _ ⟨k,hk,rfl,rfl⟩;refine Z ?_;refine Zo rfl rfl (.inl rfl) (Cf O O) (Z ?_);refine Z8 rfl rfl rfl rfl (Z ?_);refine Vq rfl rfl (.inl rfl) (by decide) (Qn O) (Z ?_);refine U9 MA TJ rfl (Pl O) (Z ?_);refine Zo rfl rfl (.inl rfl) (Qo O O) (Z ?_);refine U9 MA Qh rfl (Pm O) (Z ?_);refine R9 rfl rfl rfl (by decide) (Z ?_);refine U9 u3 TJ rfl (r:=1) rfl (Z ?_);have gL:∀{rs:List Zf} {σ:aN} {H1:Hp},H1=H.tagc [32,n]->σ.cX=[{ target:=.fn (.func 186) #[],args:=#[] }]->U6 σ rs=some []->rs.any Zf.cell=false->VK (pm c) rs (λ_ H'=>H'=H.tagc [33,n]) σ H1:=by rintro rs σ H1 rfl hd hr hc;refine Nc hc hr ?_;rw[hd];refine Zi4 ZgI ((Zt2 ok Yj rfl).mono ?_);rintro v _ ⟨_,rfl⟩;rfl
 by_cases h1:k=0
 ·subst h1;refine YA rfl rfl rfl rfl (Z ?_);refine VE rfl (XA Zm1 rfl (.inr rfl) (by simp[Vb,cd])) ?_;rintro v _ ⟨rfl,rfl⟩;refine Z ?_;refine Zr ZmW (vs:=[.pointer (some ⟨c.W,1,none⟩)]) rfl (ZlN ok (.inl rfl) ZmW (.inl ⟨n,rfl⟩)) ?_;rintro v _ ⟨rfl,rfl⟩;refine Z ?_;refine XU rfl rfl rfl (by decide) (Z ?_);refine Z8 rfl rfl rfl rfl (Z ?_);refine R9 rfl rfl rfl (by decide) (Z ?_);exact Ob (gL rfl rfl rfl rfl)
 refine Yc rfl rfl rfl O (Z ?_);refine XU rfl rfl rfl O (Z ?_);refine Z8 rfl rfl rfl rfl (Z ?_);refine R9 rfl rfl rfl O (Z ?_);exact Ob (gL rfl rfl rfl rfl)
end
section
variable{c:Cx}
def ZnE(c:Cx)(H H':Hp):Prop:=∃(l:List Nat) (Hl:Hp),c.PI l Hl/\(∀m,1<=m->m<=c.N->c.need m=true->m∈l)/\(∀m∈l,1<=m/\m<=c.N/\c.need m=true)/\l.Nodup/\Hl.gh=[]/\(H.tagc [40]).Comp Hl/\H'=(H.tagc [40]).join Hl
theorem ZnQ(h:n<=100000001):IntKind.u64.wrap ((jQ n 0:Nat)+1)=((jQ n 1:Nat):Int):=by
 have e:((jQ n 0:Nat):Int)+1=((jQ n 1:Nat):Int):=by unfold jQ;omega
 rw[<-e,Pj O (by unfold jQ;omega)]
theorem Ztm{P:bF}{d:Option Nat}{next:aN->Hp->Prop}{σ:aN}{x y:Operand}{m n r:Int}(e1:σ.get x=some (.int .u64 m))(e2:σ.get y=some (.int .u64 n))(hr:IntKind.u64.wrap (m+n)=r)(h:next (σ.set d (.int .u64 r)) H):(bC.bQ .add x y).m P d next σ H:=
 Yd e1 e2 rfl (by subst hr;exact h)
theorem ZnY(ok:c.Ok)(hg:H.cg=[30,c.K])(h0:H.hd=0):LL.Zc (pm c) 153 #[ptr c.W] H λ_ H'=>ZnE c H H':=by
 refine aO.m (P:=pm c) Zxc (args:=[ptr c.W]) rfl ?_;unfold Zkv;refine Z ?_;refine Zr UU (vs:=[]) rfl (Zt3 ok UU hg h0) ?_;rintro v _ ⟨rfl,rfl⟩;refine Z ?_;refine S6 (λ(j:Option Nat) H'=>H'=H.tagc (34 :: j.toList)) (λj=>j.getD 100000003) (λ_=>[(0,ptr c.W)]) (λ_=>[]) none rfl V trivial ?_;rintro j _ rfl;refine Z ?_;refine Za (vs:=[ptr c.W]) rfl (Ql rfl (Zt0 ok XD (l0:=j.toList) (by rfl))) ?_;rintro v H' ⟨n,hn,rfl,bV,WL⟩;refine Z ?_;refine Vq rfl rfl (.inl rfl) (by decide) (Qn O) (Z ?_);refine U9 MA TJ rfl (Pl O) (Z ?_);refine Zo rfl rfl (.inl rfl) (Qo O O) (Z ?_);refine U9 MA Qh rfl (Pm O) (Z ?_);rcases WL with⟨rfl,rfl⟩ | ⟨h0,rfl⟩
 ·refine YA rfl rfl rfl rfl (Z ?_);refine Zr Yj (vs:=[]) rfl (ZlO ok Yj (by rfl)) ?_;rintro v _ ⟨rfl,rfl⟩;refine Z ?_;refine VE rfl (XA Lg rfl (.inl rfl) (by simp[Vb,cd])) ?_;rintro v H1 ⟨rfl,e⟩;rw[e];refine Z ?_;refine Zr YH (vs:=[ptr c.W]) rfl (ZlP ok YH (by rfl)) ?_;rintro v H2 ⟨rfl,IW⟩;refine Z ?_;refine YA rfl rfl rfl rfl (Z ?_);refine Zo rfl rfl (.inl rfl) (Cf O O) (Z ?_);refine Z8 rfl rfl rfl rfl (Z ?_);exact IW
 refine Yc rfl rfl rfl O (Z ?_);refine Ztm rfl rfl (ZnQ hn) (Z ?_);refine Za (vs:=[ptr c.W,.int .u64 (jQ n 0:Nat),.int .u64 (jQ n 1:Nat)]) rfl (Zn0 rfl (Zt6 ok ZmR h0 (by rfl))) ?_;rintro v _ (⟨rfl,rfl⟩ | ⟨rfl,rfl⟩)
 ·refine Z ?_;refine YA rfl rfl rfl rfl (Z ?_);refine VE rfl (XA Zm1 rfl (.inr rfl) (by simp[Vb,cd])) ?_;rintro v H1 ⟨rfl,e⟩;rw[e];refine Z ?_;refine Zr ZmU (vs:=[.pointer (some ⟨c.W,1,none⟩)]) rfl (ZlN ok (.inr rfl) ZmU (.inr rfl)) ?_;rintro v H2 ⟨rfl,e⟩;rw[e];refine Z ?_;refine Zo rfl rfl (.inl rfl) (Cf O O) (Z ?_);refine Z8 rfl rfl rfl rfl (Z ?_);refine Zr ZmT (vs:=[.pointer (some ((dN c.W).add 1)),.bool false]) rfl (ZtY ok ZmT rfl (by rfl)) ?_;rintro v _ ⟨rfl,rfl⟩;refine Z ?_;refine Za (vs:=[ptr c.W]) rfl (Ql rfl (ZtZ ok XD (by rfl))) ?_;rintro v _ ⟨rfl,rfl⟩;refine Z ?_;refine Z8 rfl rfl rfl rfl (Z ?_);refine Zr Yj (vs:=[]) rfl (ZlO ok Yj (by rfl)) ?_;rintro v _ ⟨rfl,rfl⟩;refine Z ?_;refine VE rfl (XA Lg rfl (.inl rfl) (by simp[Vb,cd])) ?_;rintro v H3 ⟨rfl,e⟩;rw[e];refine Z ?_;refine Zr YH (vs:=[ptr c.W]) rfl (ZlP ok YH (by rfl)) ?_;rintro v H4 ⟨rfl,IW⟩;refine Z ?_;exact IW
 refine Z ?_;refine⟨some n,?_,rfl,V,trivial,rfl⟩;cases j with
 | none=>simp;omega
 | some v0=>exact bV v0 rfl
end
end
end Go.Proofs
end
namespace Go.LL
variable{N K:Nat}{p:Program}{Hx Hm Hl:Hp}
open Go.Conc
open Go.ConcN (sumTo upd sumTo_upd upd_ne upd_same)
noncomputable def KL(p:Program):bF:={ toProgram:=p,still:=λ_=>false,stillNil:=λ_ _=>rfl,toEnv:=Zvm p }
def lL(N K nx:Nat):Ts:={ tag:=λj=>if j=0 then[30,0]else[0],next:=nx,more:=K,mu:=⟨0,0,0,0,0⟩,wg:=⟨0,0,0⟩,kP:=[],hd:=λj=>if j=0 then N+1 else 0,iR:=N,cls:=false,cn:=0 }
section
variable{c:Cx}
theorem Zob{nx:Nat}{g:Nat->Nat}(h0:g 0=0)(WM:g 30=0):Ct g (lL N K nx).tag nx=0:=by
 refine SR λi _=>?_;by_cases e:i=0
 ·subst e;exact WM
 simp only[lL,bY e];exact h0
theorem Zoc(hb:1<=c.base):bK c (lL c.N c.K c.base):=by
 have z:∀g:Nat->Nat,g 0=0->g 30=0->Ct g (lL c.N c.K c.base).tag (lL c.N c.K c.base).next=0:=λg=>Zob;have t0:(lL c.N c.K c.base).tag 0=[30,0]:=rfl;have tj:∀j,j≠0->(lL c.N c.K c.base).tag j=[0]:=λj hj=>by simp[lL,hj]
 refine⟨⟨?_,qAR 1,qAR 1,qAR 1,?_,λe=>by simp[lL]at e⟩,⟨?_,?_,?_,?_,?_,?_⟩,λj hj=>?_,λv=>?_,λk n hk hl=>?_,λj hj hc=>?_,rfl,hb,aC _,λj h1 h2=>tj j O,λj h1 h2=>?_,List.nodup_nil,λj hj=>?_,λj h1 h2=>?_,⟨λe=>by simp[lL]at e,λ_=>rfl⟩,aC _,λj h1 h2=>?_,λj k h1 h2=>?_,λq h1 h2 h3=>?_,λ_ j h1 h2=>?_,λh=>?_⟩
 ·exact(z Zk rfl rfl).symm
 ·intro _;rw[z cQ rfl rfl,z cR rfl rfl,z cT rfl rfl,z cA rfl rfl];exact⟨rfl,rfl,λ_ h=>by simp[lL]at h⟩
 ·show 0=Ct cW _ _+mP (cd [30,0]);rw[z cW rfl rfl];rfl
 ·show 30<=cd [30,0];simp[cd]
 ·intro h;rw[t0]at h;simp[cd]at h
 ·intro h;rw[t0]at h;simp[cd]at h
 ·intro _;exact⟨rfl,rfl,z cL rfl rfl,z cE rfl rfl⟩
 ·intro h;rw[t0]at h;simp[cd]at h
 ·by_cases e:j=0
  ·subst e;rw[t0];exact Mu.dI (by simp[cd])
  rw[tj j e];trivial
 ·rw[t0];simp
 ·rw[t0]at hl;simp at hl;show c.base=c.base+n;omega
 ·by_cases e:j=0
  ·subst e;rw[t0]at hc;simp[cd]at hc
  rw[tj j e]at hc;simp[cd]at hc
 ·have:j<c.base:=h2;omega
 ·simp[lL]at hj
 ·have:j<c.base:=h2;omega
 ·have:j<c.base:=h2;omega
 ·have:j<c.base:=h2;omega
 ·have:q+c.N<=c.N:=h2;omega
 ·have:j<c.base:=h2;omega
 rw[t0]at h;simp[cd]at h
end
structure K9(H:Hp)(M W ch:Nat)(tM tW:TypeId)(Hm Hl:Hp):Prop where
 ne:M≠W
 AG:ch≠M
 AF:ch≠W
 C8:H ch=some (.chan 0 #[] false 0 0 false,true)
 yH:H M=some (.cells #[.int .i32 (0:Nat),.int .u32 (0:Nat)] tM,true)
 yG:H W=some (.cells #[.int .u64 (0:Nat),.int .u32 (0:Nat)] tW,true)
 own:∀b x,Hm b=some x->H b=some x/\b≠M/\b≠W/\b≠ch/\Hl b=none
 eK:∀b x,Hl b=some x->H b=some x/\b≠M/\b≠W/\b≠ch
theorem ZoI{gs:Array Goroutine}{w:World}{t:Trace}{q:Nat->Nat}(ha:jL p Hx gs w t q){c:Cx}(hS:K9 Hx c.M c.W c.ch c.tM c.tW Hm Hl)(F8:0<gs.size)(hb:c.base=gs.size)(hn:c.n0=t.size)(sS:∀l,c.old l↔∃b,l.gP=some b/\yZ t b)
  (yE:c.PI [] Hl):ZM c (lL c.N c.K gs.size) ((hO c (lL c.N c.K gs.size)).join Hl) t:=by
 have t0:(lL c.N c.K gs.size).tag 0=[30,0]:=rfl;have tj:∀j,j≠0->(lL c.N c.K gs.size).tag j=[0]:=λj hj=>by simp[lL,hj]
 have gZ:∀j,c.live gs.size j->j=0:=λj hj=>by have:=hj.2;have:=hj.1;omega
 have vR:∀q x a b y,t[q]? = some x->x.act.touch? = some a->a.loc.gP=some b->Hx b=some y->Knows t 0 q:=by intro q x a b y hx gC mD hy;refine oR λhn=>?_;have:=ha.yN (b:=b) ⟨q,a,by rw[touchAt_of hx];exact gC,mD,hn⟩;rw[hy]at this;simp at this
 refine⟨by rw[<-hb];exact Zoc O,⟨O,O,?_,?_,?_,?_,?_,?_,?_,?_,?_⟩,λj hj hc=>?_,λh=>?_,.inr ⟨?_,Hl,rfl,⟨λb x y h1 h2=>?_,.inl rfl⟩,yE⟩⟩
 ·intro q x hx hq;have:=lt_size_of_getElem? hx;omega
 ·intro q x a hx gC hs;refine .inr λj hj=>?_;rw[gZ j hj];obtain⟨b,mD,rfl | rfl⟩:=hs
  ·exact vR q x a _ _ hx gC mD hS.yH
  exact vR q x a _ _ hx gC mD hS.yG
 ·intro q x a b hx gC mD hp;refine .inl λj hj=>?_;rw[gZ j hj];obtain⟨⟨y,hy⟩,b1,b2,b3⟩:=hp;simp only[Hp.aX,Aq b1 b2 b3]at hy;exact vR q x a b y hx gC mD (hS.eK b y hy).1
 ·intro q x a hx gC hm h1 h2;have h2:x.g<gs.size:=h2;omega
 ·intro q x a hx hq gC hm;rcases ha.lS.known q a (by rw[touchAt_of hx];exact gC) hm with h1 | ⟨⟨b,h1,_⟩,h2⟩
  ·exact .inl h1
  by_cases hk:Knows t 0 q
  ·exact .inl hk
  exact .inr ⟨h2,(sS _).2 ⟨b,h1,q,a,by rw[touchAt_of hx];exact gC,h1,hk⟩⟩
 ·intro q x hx hq hg hc;obtain⟨j,h1,h2⟩:=ha.lS.over q x.g (by unfold Trace.g?;rw[hx];rfl) hg hc;obtain⟨y,hy,hyg⟩:=qAm.1 h1;exact⟨j,y,hy,hyg,h2⟩
 ·intro q x a hx hq;have:=lt_size_of_getElem? hx;omega
 ·intro q x hx hq;have:=lt_size_of_getElem? hx;omega
 ·intro q x a hx gC mD;exact vR q x a _ _ hx gC mD hS.C8
 ·obtain rfl:=gZ j hj;rw[ha.lS.hears];rfl
 ·rw[t0]at h;simp[cd]at h
 ·rintro⟨j,hj,e⟩;by_cases e0:j=0
  ·subst e0;rw[t0]at e;simp[cd]at e
  rw[tj j e0]at e;simp[cd]at e
 obtain⟨h3,h4,h5,h6⟩:=hS.eK b y h2;rcases(Ur h1).1 with rfl | rfl | rfl
 ·exact absurd rfl h4
 ·exact absurd rfl h5
 exact absurd rfl h6
theorem ZsK{R:Frame->List Frame->Hp->Prop}{fr:Frame}{cs:List Frame}{M W ch:Nat}{tM tW:TypeId}{need:Nat->Bool}{PI:List Nat->Hp->Prop}{msg:Nat->Value->Hp->Prop}(hS:K9 Hx M W ch tM tW Hm Hl)(yE:PI [] Hl)
  (ok:∀base n0 old,Cx.Ok { M,W,ch,base,n0,old,tM,tW,K,need,PI,N,msg }) (hg:Hm.gh=[N+2,30,0])
  (sO:∀base n0 old,1<=base->Reach (bG p { M,W,ch,base,n0,old,tM,tW,K,need,PI,N,msg }).prgM
   (λbW bJ H'=>H'.gh=[1,40]/\∀H2:Hp,H2.gh=Hx.gh->(∀b,H2 b=none↔H' b=none)->(∀b x y,H2 b=some x->H' b=some y->x.1=y.1/\(y.2=true->x.2=true)/\((∃o,Hx b=some (o,true))->x.2=true)/\∀o,Hx b=some (o,false)->x.2=true->y.2=true)->R bW bJ H2) fr cs Hm):UZ p R fr cs Hx:=by
 refine ZsL λgs w t q ha h0=>?_
 have rG:0<gs.size:=(qAl.1 h0).1
 let c:Cx:={ M,W,ch,base:=gs.size,n0:=t.size,old:=λl=>∃b,l.gP=some b/\yZ t b,tM,tW,K,need,PI,N,msg }
 have FR:c.Ok:=ok _ _ _
 have hS':K9 Hx c.M c.W c.ch c.tM c.tW Hm Hl:=hS
 have hI:=ZoI (c:=c) ha hS' rG rfl rfl (λl=>qCB) yE
 have mwx:∀b x,hO c (lL c.N c.K gs.size) b=some x->Hx b=some x:=by
  intro b x h;rcases(Ur h).1 with rfl | rfl | rfl
  ·rw[J6 FR.ne]at h;obtain rfl:=dO h;exact hS.yH
  ·rw[J7]at h;have e:U1 c (lL c.N c.K gs.size).wg=.cells #[.int .u64 (0:Nat),.int .u32 (0:Nat)] tW:=by simp[U1,lL,c]
   rw[e]at h;obtain rfl:=dO h;exact hS.yG
  rw[J5 FR.AG FR.AF]at h;have e:Uw (lL c.N c.K gs.size)=.chan 0 #[] false 0 0 false:=rfl;rw[e]at h;obtain rfl:=dO h;exact hS.C8
 have Tv:∀b x,((hO c (lL c.N c.K gs.size)).join Hl) b=some x->Hx b=some x:=by
  intro b x h;simp only[Hp.aX]at h;cases hh:hO c (lL c.N c.K gs.size) b with
  | some z=>rw[hh]at h;exact mwx b x (hh.trans h)
  | none=>rw[hh]at h;exact(hS.eK b x h).1
 refine⟨bG p c,lL c.N c.K gs.size,(hO c (lL c.N c.K gs.size)).join Hl,Hm,_,⟨Zoj FR,hI,rfl,?_,λj h1 h2=>?_,λb o pm h=>ha.le b o pm (hS.own b _ h).1,λb o pm h=>ha.le b o pm (Tv b _ h),λb x y h1 h2=>?_,λb x h=>.inr ⟨x,.inl (hS.own b x h).1,λ_=>rfl⟩,λb x h=>.inr ⟨x,.inl (Tv b x h),λ_=>rfl⟩,?_,sO gs.size t.size _ rG,?_,?_⟩⟩
 ·show ZG (lL c.N c.K gs.size) 0=_;rw[hg];simp[ZG,pP,lL,cd,c]
 ·show ZG (lL c.N c.K gs.size) j=[0,0];simp[ZG,pP,lL,h1,cd]
 ·exfalso;obtain⟨h3,h4,h5,KV,h6⟩:=hS.own b x h1;simp only[Hp.aX]at h2;cases hh:hO c (lL c.N c.K gs.size) b with
  | some z=>
   rcases(Ur hh).1 with rfl | rfl | rfl
   ·exact h4 rfl
   ·exact h5 rfl
   exact KV rfl
  | none=>rw[hh,h6]at h2;simp at h2
 ·show UX _;rw[hg];exact .inr (by simp[cd,ZP])
 ·rintro bW bJ H' ⟨yA,_⟩ hc;have hc:3<=H'.gh.headD 0/\_:=hc;rw[yA]at hc;simp at hc
 ·rintro bW bJ H' s' eG t' w' ⟨yA,hR⟩ IT aG oZ kK PX F3 EJ BP aJn
  have BW:ZM c s' eG t':=IT
  have vN:s'.tag 0=[40]:=(X7 (i:=0) ((show ZG s' 0=H'.gh from aG).trans yA) (by simp[cd,ZP])).1
  obtain⟨f1,f2⟩:=BW.gL (by rw[vN];rfl)
  have hMn:H' M=none:=by
   cases hh:H' M with
   | none=>rfl
   | some y=>have:=oZ M _ _ hh (BW.yH FR);rw[this.1]at this;simp at this
  have hWn:H' W=none:=by
   cases hh:H' W with
   | none=>rfl
   | some y=>have:=oZ W _ _ hh BW.yG;rw[this.1]at this;simp at this
  refine⟨λj h1 h2=>?_,λi a h1 h2=>?_,f2,?_,?_⟩
  ·have e:s'.tag j=[0]:=by
    by_cases hb:c.base<=j
    ·exact BW.bI.over (by rw[vN];simp[cd]) hb h2
    exact BW.bI.kO j O O
   show ZG s' j=[0,0];unfold ZG;rw[e];rfl
  ·obtain⟨x,hx,gC⟩:=touch_of h1;rcases f1 i x a hx gC h2 with h3 | ⟨h3,h4⟩
   ·exact .inl h3
   refine .inr ⟨h3,λb hb=>?_⟩;rcases h4 with⟨b',eY,hu⟩ | ⟨b',eY,h5⟩
   ·rw[hb]at eY;obtain rfl:=dO eY;refine⟨?_,.inl hu⟩;cases hh:H' b with
    | none=>rfl
    | some y=>
     exfalso;rcases BP.nil hh with h6 | ⟨z,hz,_⟩
     ·obtain⟨i2,a2,g1,g2,_⟩:=hu;obtain⟨x2,tP,Fv⟩:=touch_of g1;exact absurd (MJ Fv g2 (ha.lS.seen x2 (mem_of_getElem? tP))) O
     rw[ha.yN hu]at hz;simp at hz
   rw[hb]at eY;obtain rfl:=dO eY;rcases h5 with rfl | rfl
   ·exact⟨hMn,.inr (.inr ⟨_,hS.yH⟩)⟩
   exact⟨hWn,.inr (.inr ⟨_,hS.yG⟩)⟩
  ·rw[BW.deaf 0 ⟨BW.bI.cS,.inl rfl⟩ (by rw[vN];simp[cd]),vN];rfl
  classical
  let H2:Hp:=⟨λb=>(H' b).map λy=>(y.1,if(∃o,Hx b=some (o,true))then true else y.2),Hx.gh⟩
  have h2:∀b,H2 b=(H' b).map λy=>(y.1,if(∃o,Hx b=some (o,true))then true else y.2):=λb=>rfl
  refine⟨H2,rfl,λb x hx=>?_,hR H2 rfl (λb=>?_) λb x y hx hy=>?_⟩
  ·rw[h2]at hx;obtain⟨y,hy,rfl⟩:=qAm.1 hx;refine⟨y,hy,rfl,λe=>?_⟩;simp only at e;split at e
   ·rename_i h;exact .inr h
   exact .inl e
  ·rw[h2];simp
  rw[h2,hy]at hx
  obtain rfl:=dO hx
  refine⟨rfl,λe=>?_,λe=>?_,λo ho e=>?_⟩
  ·simp only;split
   ·rfl
   exact e
  ·simp only;rw[iO e]
  simp only at e
  rwa [bY (by rintro⟨o',h⟩;rw[ho]at h;simp at h)]at e
