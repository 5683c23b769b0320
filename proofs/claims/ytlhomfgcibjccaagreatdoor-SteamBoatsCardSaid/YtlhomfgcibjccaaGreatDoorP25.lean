import Derived.Test.YtlhomfgcibjccaaGreatDoorP24
set_option linter.all false
set_option maxHeartbeats 4000000
section
open Go Go.LL
namespace Go.Proofs
section
variable{G:Prop}{g:Bool}
def Mv(h:G:=by refine Z ?_;refine Zm rfl rfl (.inl rfl) hB.pE (Z ?_);refine YB rfl rfl rfl (by simp) ?_;exact Kd):G:=h
def Zh9(h:G:=by refine Z ?_;refine Ve rfl (T9 (M:=m) ok uN rfl (.inl rfl)) ?_;rintro v _ ⟨L2,n2,m2,fP,rfl,rfl,hm,_⟩;have hm:=hm rfl;refine Z ?_;exact⟨⟨true,true,it,zF,L2,1,0,n2,m2⟩,by simp only;omega,⟨fP,by simp only;omega,λe=>by simp at e,λ_=>⟨rfl,rfl,rfl⟩⟩,V,trivial,rfl⟩):G:=h
def Zia(h:G:=by refine Z ?_;refine Ve rfl (T9 (M:=m) ok uN rfl (.inl rfl)) ?_;rintro v _ ⟨L2,n2,m2,fP,rfl,rfl,hm,_⟩;have hm:=hm rfl;refine Z ?_;exact⟨⟨true,false,it,zF,L2,1,0,n2,m2⟩,by simp only;omega,⟨fP,by simp only;omega,λe=>by simp at e,λ_=>⟨rfl,rfl,rfl⟩⟩,V,trivial,rfl⟩):G:=h
def Zib(h:G:=by refine Z ?_;refine OC X3 (vs:=[]) rfl ?_;refine(LU ?_);refine Z ?_;refine Yc rfl rfl rfl ⟨by unfold pZ;simp only;omega,?_⟩;refine Z ?_;refine Ve rfl (T8 (M:=m) ok uN rfl (.inr (.inr ⟨_,rfl⟩))) ?_;rintro v _ ⟨L2,W2,S2,n2,m2,fP,rfl,rfl,_,hm⟩;have hm:=hm ⟨_,rfl⟩;refine Z ?_;exact⟨⟨false,false,(it+1),zF,L2,W2,S2,n2,m2⟩,by simp only;omega,⟨fP,by simp only;omega,λ_=>⟨rfl,rfl⟩,λe=>by simp at e⟩,V,trivial,rfl⟩):G:=h
def Ke(h:G:=by refine Z ?_;refine Ve rfl (T8 (M:=m) ok uN rfl (.inr (.inl rfl))) ?_;rintro v _ ⟨L2,W2,S2,n2,m2,fP,rfl,rfl,hm,_⟩;have hm:=hm rfl;refine Z ?_;exact⟨⟨false,false,it,zF,L2,W2,S2,n2,m2⟩,by simp only;omega,⟨fP,by simp only;omega,λ_=>⟨rfl,rfl⟩,λe=>by simp at e⟩,V,trivial,rfl⟩):G:=h
def Zic(h:G:=by
  refine Z ?_;refine Zm rfl rfl (.inl rfl) fP.jM (Z ?_);refine YT rfl rfl rfl (by simp) (Z ?_);refine Zm rfl rfl (.inl rfl) fP.vP (Z ?_);refine Z6 rfl rfl rfl (by simp) (Z ?_);refine Vr rfl rfl (.inl rfl) (by decide) fP.n6 (Z ?_);refine Yb rfl rfl rfl O (Z ?_);refine Vr rfl rfl (.inl rfl) (by decide) fP.n6 (Z ?_);by_cases h1:n2=1
  ·refine YB rfl rfl rfl O (Z ?_);refine Zm rfl rfl (.inr (.inr (.inr rfl))) (v:=.int .i32 (-11)) rfl (Z ?_);refine Zq YX (vs:=[ptr c.M,.int .i32 (-11)]) rfl (OU ok YX fP yJ true (λe=>by simp at e) (by rfl)) ?_;rintro v _ ⟨⟨z,rfl⟩,rfl⟩;exact Kd
  refine Yb rfl rfl rfl O (Z ?_);refine Zq YX (vs:=[ptr c.M,.int .i32 (-7)]) rfl (OU ok YX fP yJ false (λ_=>h1) (by rfl)) ?_;rintro v _ ⟨⟨z,rfl⟩,rfl⟩;exact Kd):G:=h
def Kd(h:G:=by refine Z ?_;refine Zq Yi (vs:=[]) rfl (OV ok Yi (by rfl)) ?_;rintro v _ ⟨rfl,rfl⟩;refine Z ?_;refine VF rfl (UU ok Og rfl (.inl rfl) (.inl (by simp[Vb,cd]))) ?_;rintro v _ ⟨rfl,rfl⟩;refine Z ?_;refine Zq YI (vs:=[ptr c.M]) rfl (OT ok YI rfl) ?_;rintro v _ ⟨rfl,l,Hl,h1,h2,h3,h4,h5,rfl⟩;refine Z ?_;exact⟨l,Hl,h1,h2,h3,h4,h5,rfl⟩):G:=h
def Kc(h:G:=by
  refine Z ?_;refine Z ?_;refine Zm rfl rfl (.inl rfl) hB.pE (Z ?_);refine Yb rfl rfl rfl O (Z ?_);by_cases D1:zF=0
  ·refine Z6 rfl rfl rfl D1 (Z ?_);refine YB rfl rfl rfl D1 (Z ?_);refine Zq FY (vs:=[]) rfl (WC ok FY WX (by simp[Vb,cd])) ?_;rintro v _ ⟨⟨z1,rfl⟩,rfl⟩;refine Z ?_;refine Zq OP (vs:=[.pointer (some ((dZ c.M).add 1)),_,.int .i64 2]) rfl (WE ok OP rfl (by rfl)) ?_;rintro v _ ⟨rfl,rfl⟩;refine Z ?_;refine Zq FY (vs:=[]) rfl (WC ok FY WX (by simp[Vb,cd])) ?_;rintro v _ ⟨⟨z2,rfl⟩,rfl⟩;refine Z ?_;refine Zm rfl rfl (.inr (.inr (.inr rfl))) rfl (Z ?_);refine Yc rfl rfl rfl ?_;intro b3 _;refine Z ?_;cases b3
   ·refine Z ?_;refine Ve rfl (K6 (M:=m) ok uN rfl (by rfl)) ?_;rintro v _ (⟨L2,n2,m2,fP,rfl,rfl,hm⟩ | ⟨n2,fP,yJ,rfl,rfl⟩)
    ·refine Z ?_;refine Zm rfl rfl (.inl rfl) fP.jM (Z ?_);refine Z6 rfl rfl rfl (by simp) (Z ?_);exact⟨⟨true,false,0,z1,L2,1,0,n2,m2⟩,by simp only;omega,⟨fP,by simp only;omega,λe=>by simp at e,λ_=>⟨rfl,rfl,rfl⟩⟩,V,trivial,rfl⟩
    refine Z ?_;refine Zm rfl rfl (.inl rfl) fP.jM (Z ?_);refine YT rfl rfl rfl (by simp) (Z ?_);refine Zm rfl rfl (.inl rfl) fP.vP (Z ?_);refine Z6 rfl rfl rfl (by simp) (Z ?_);refine Vr rfl rfl (.inl rfl) (by decide) fP.n6 (Z ?_);refine Yb rfl rfl rfl O (Z ?_);refine Zm rfl rfl (.inr (.inr (.inr rfl))) (v:=.int .i32 (-11)) rfl (Z ?_);refine Zq YX (vs:=[ptr c.M,.int .i32 (-11)]) rfl (OU ok YX fP yJ true (λe=>by simp at e) (by rfl)) ?_;rintro v _ ⟨⟨z,rfl⟩,rfl⟩;refine Z ?_;refine Zq Yi (vs:=[]) rfl (OV ok Yi (by rfl)) ?_;rintro v _ ⟨rfl,rfl⟩;refine Z ?_;refine VF rfl (UU ok Og rfl (.inl rfl) (.inl (by simp[Vb,cd]))) ?_;rintro v _ ⟨rfl,rfl⟩;refine Z ?_;refine Zq YI (vs:=[ptr c.M]) rfl (OT ok YI rfl) ?_;rintro v _ ⟨rfl,l,Hl,h1,h2,h3,h4,h5,rfl⟩;refine Z ?_;exact⟨l,Hl,h1,h2,h3,h4,h5,rfl⟩
   refine Z ?_;refine Ve rfl (K6 (M:=m) ok uN rfl (by rfl)) ?_;rintro v _ (⟨L2,n2,m2,fP,rfl,rfl,hm⟩ | ⟨n2,fP,yJ,rfl,rfl⟩)
   ·refine Z ?_;refine Zm rfl rfl (.inl rfl) fP.jM (Z ?_);refine Z6 rfl rfl rfl (by simp) (Z ?_);exact⟨⟨true,true,0,z1,L2,1,0,n2,m2⟩,by simp only;omega,⟨fP,by simp only;omega,λe=>by simp at e,λ_=>⟨rfl,rfl,rfl⟩⟩,V,trivial,rfl⟩
   refine Z ?_;refine Zm rfl rfl (.inl rfl) fP.jM (Z ?_);refine YT rfl rfl rfl (by simp) (Z ?_);refine Zm rfl rfl (.inl rfl) fP.vP (Z ?_);refine Z6 rfl rfl rfl (by simp) (Z ?_);refine Vr rfl rfl (.inl rfl) (by decide) fP.n6 (Z ?_);refine Yb rfl rfl rfl O (Z ?_);refine Vr rfl rfl (.inl rfl) (by decide) fP.n6 (Z ?_);by_cases h1:n2=1
   ·refine YB rfl rfl rfl O (Z ?_);refine Zm rfl rfl (.inr (.inr (.inr rfl))) (v:=.int .i32 (-11)) rfl (Z ?_);refine Zq YX (vs:=[ptr c.M,.int .i32 (-11)]) rfl (OU ok YX fP yJ true (λe=>by simp at e) (by rfl)) ?_;rintro v _ ⟨⟨z,rfl⟩,rfl⟩;refine Z ?_;refine Zq Yi (vs:=[]) rfl (OV ok Yi (by rfl)) ?_;rintro v _ ⟨rfl,rfl⟩;refine Z ?_;refine VF rfl (UU ok Og rfl (.inl rfl) (.inl (by simp[Vb,cd]))) ?_;rintro v _ ⟨rfl,rfl⟩;refine Z ?_;refine Zq YI (vs:=[ptr c.M]) rfl (OT ok YI rfl) ?_;rintro v _ ⟨rfl,l,Hl,h1,h2,h3,h4,h5,rfl⟩;refine Z ?_;exact⟨l,Hl,h1,h2,h3,h4,h5,rfl⟩
   refine Yb rfl rfl rfl O (Z ?_);refine Zq YX (vs:=[ptr c.M,.int .i32 (-7)]) rfl (OU ok YX fP yJ false (λ_=>h1) (by rfl)) ?_;rintro v _ ⟨⟨z,rfl⟩,rfl⟩;refine Z ?_;refine Zq Yi (vs:=[]) rfl (OV ok Yi (by rfl)) ?_;rintro v _ ⟨rfl,rfl⟩;refine Z ?_;refine VF rfl (UU ok Og rfl (.inl rfl) (.inl (by simp[Vb,cd]))) ?_;rintro v _ ⟨rfl,rfl⟩;refine Z ?_;refine Zq YI (vs:=[ptr c.M]) rfl (OT ok YI rfl) ?_;rintro v _ ⟨rfl,l,Hl,h1,h2,h3,h4,h5,rfl⟩;refine Z ?_;exact⟨l,Hl,h1,h2,h3,h4,h5,rfl⟩
  refine YT rfl rfl rfl D1 (Z ?_);refine Yb rfl rfl rfl D1 (Z ?_);refine Zq OP (vs:=[.pointer (some ((dZ c.M).add 1)),_,.int .i64 2]) rfl (WE ok OP rfl (by rfl)) ?_;rintro v _ ⟨rfl,rfl⟩;refine Z ?_;refine Zq FY (vs:=[]) rfl (WC ok FY WX (by simp[Vb,cd])) ?_;rintro v _ ⟨⟨z2,rfl⟩,rfl⟩;refine Z ?_;refine Zm rfl rfl (.inr (.inr (.inr rfl))) rfl (Z ?_);refine Yc rfl rfl rfl ?_;intro b3 _;refine Z ?_;cases b3
  ·refine Z ?_;refine Ve rfl (K6 (M:=m) ok uN rfl (by rfl)) ?_;rintro v _ (⟨L2,n2,m2,fP,rfl,rfl,hm⟩ | ⟨n2,fP,yJ,rfl,rfl⟩)
   ·refine Z ?_;refine Zm rfl rfl (.inl rfl) fP.jM (Z ?_);refine Z6 rfl rfl rfl (by simp) (Z ?_);exact⟨⟨true,false,0,zF,L2,1,0,n2,m2⟩,by simp only;omega,⟨fP,by simp only;omega,λe=>by simp at e,λ_=>⟨rfl,rfl,rfl⟩⟩,V,trivial,rfl⟩
   refine Z ?_;refine Zm rfl rfl (.inl rfl) fP.jM (Z ?_);refine YT rfl rfl rfl (by simp) (Z ?_);refine Zm rfl rfl (.inl rfl) fP.vP (Z ?_);refine Z6 rfl rfl rfl (by simp) (Z ?_);refine Vr rfl rfl (.inl rfl) (by decide) fP.n6 (Z ?_);refine Yb rfl rfl rfl O (Z ?_);refine Zm rfl rfl (.inr (.inr (.inr rfl))) (v:=.int .i32 (-11)) rfl (Z ?_);refine Zq YX (vs:=[ptr c.M,.int .i32 (-11)]) rfl (OU ok YX fP yJ true (λe=>by simp at e) (by rfl)) ?_;rintro v _ ⟨⟨z,rfl⟩,rfl⟩;refine Z ?_;refine Zq Yi (vs:=[]) rfl (OV ok Yi (by rfl)) ?_;rintro v _ ⟨rfl,rfl⟩;refine Z ?_;refine VF rfl (UU ok Og rfl (.inl rfl) (.inl (by simp[Vb,cd]))) ?_;rintro v _ ⟨rfl,rfl⟩;refine Z ?_;refine Zq YI (vs:=[ptr c.M]) rfl (OT ok YI rfl) ?_;rintro v _ ⟨rfl,l,Hl,h1,h2,h3,h4,h5,rfl⟩;refine Z ?_;exact⟨l,Hl,h1,h2,h3,h4,h5,rfl⟩
  refine Z ?_;refine Ve rfl (K6 (M:=m) ok uN rfl (by rfl)) ?_;rintro v _ (⟨L2,n2,m2,fP,rfl,rfl,hm⟩ | ⟨n2,fP,yJ,rfl,rfl⟩)
  ·refine Z ?_;refine Zm rfl rfl (.inl rfl) fP.jM (Z ?_);refine Z6 rfl rfl rfl (by simp) (Z ?_);exact⟨⟨true,true,0,zF,L2,1,0,n2,m2⟩,by simp only;omega,⟨fP,by simp only;omega,λe=>by simp at e,λ_=>⟨rfl,rfl,rfl⟩⟩,V,trivial,rfl⟩
  refine Z ?_;refine Zm rfl rfl (.inl rfl) fP.jM (Z ?_);refine YT rfl rfl rfl (by simp) (Z ?_);refine Zm rfl rfl (.inl rfl) fP.vP (Z ?_);refine Z6 rfl rfl rfl (by simp) (Z ?_);refine Vr rfl rfl (.inl rfl) (by decide) fP.n6 (Z ?_);refine Yb rfl rfl rfl O (Z ?_);refine Vr rfl rfl (.inl rfl) (by decide) fP.n6 (Z ?_);by_cases h1:n2=1
  ·refine YB rfl rfl rfl O (Z ?_);refine Zm rfl rfl (.inr (.inr (.inr rfl))) (v:=.int .i32 (-11)) rfl (Z ?_);refine Zq YX (vs:=[ptr c.M,.int .i32 (-11)]) rfl (OU ok YX fP yJ true (λe=>by simp at e) (by rfl)) ?_;rintro v _ ⟨⟨z,rfl⟩,rfl⟩;refine Z ?_;refine Zq Yi (vs:=[]) rfl (OV ok Yi (by rfl)) ?_;rintro v _ ⟨rfl,rfl⟩;refine Z ?_;refine VF rfl (UU ok Og rfl (.inl rfl) (.inl (by simp[Vb,cd]))) ?_;rintro v _ ⟨rfl,rfl⟩;refine Z ?_;refine Zq YI (vs:=[ptr c.M]) rfl (OT ok YI rfl) ?_;rintro v _ ⟨rfl,l,Hl,h1,h2,h3,h4,h5,rfl⟩;refine Z ?_;exact⟨l,Hl,h1,h2,h3,h4,h5,rfl⟩
  refine Yb rfl rfl rfl O (Z ?_);refine Zq YX (vs:=[ptr c.M,.int .i32 (-7)]) rfl (OU ok YX fP yJ false (λ_=>h1) (by rfl)) ?_;rintro v _ ⟨⟨z,rfl⟩,rfl⟩;refine Z ?_;refine Zq Yi (vs:=[]) rfl (OV ok Yi (by rfl)) ?_;rintro v _ ⟨rfl,rfl⟩;refine Z ?_;refine VF rfl (UU ok Og rfl (.inl rfl) (.inl (by simp[Vb,cd]))) ?_;rintro v _ ⟨rfl,rfl⟩;refine Z ?_;refine Zq YI (vs:=[ptr c.M]) rfl (OT ok YI rfl) ?_;rintro v _ ⟨rfl,l,Hl,h1,h2,h3,h4,h5,rfl⟩;refine Z ?_;exact⟨l,Hl,h1,h2,h3,h4,h5,rfl⟩):G:=h
structure LkI where
 aw:Bool
 st:Bool
 it:Int
 ws:Int
 L:Nat
 W:Nat
 S:Nat
 n:Nat
 m:Nat
def LU{P:PQ}{α:Type}{a:α}{Q:α->Bool->Hp->Prop}{H:Hp}(h:Q a g H):bL P (pure a) Q g H:=h
def Zgx{P:PQ}{it:Int}{Q:Value->Bool->Hp->Prop}{H:Hp}(e:P.still H.gh=false)(h:∀b:Bool,(b=true->it<4)->Q (.bool b) g H):bL P (Extern.Sync.canSpin #[.int .i64 it]) Q g H:=by
 rw[Go.Conc.canSpin_eq];split
 ·exact h false (by simp)
 rename_i j;have a:it<4:=O;rw[Zg];have key:∀(t:Nat),bL P (pure (.bool (decide (t=1)))) Q g H:=λt=>h _ λ_=>a;show bL P (.choose _ _) _ g H;simp only[bL];split
 ·exact key _
 exact⟨e,λt=>key _⟩
section
variable{P:aX}{d:Option Nat}{next:aM->Hp->Prop}{σ:aM}{H:Hp}{x y:Operand}
def Lc{m n r:Int}(a:σ.get x=some (.int .i32 m))(e:σ.get y=some (.int .i32 n))(j:IntKind.i32.wrap (m+n)=r)(h:next (σ.set d (.int .i32 r)) H):(bE.aY .add x y).m P d next σ H:=
 Yc a e rfl (by subst j;exact h)
end
section
variable{c:Cx}{i:Nat}
def ZtX(ok:c.Ok)(H:Hp)(E:H.cg=[3]):LL.Zc (pw c i) 229 #[ptr c.M] H λ_ k=>Bs c i H k:=by
 refine aJ.m (P:=pw c i) ZvW (args:=[ptr c.M]) rfl ?_;unfold Zjj;refine Z ?_;refine Ve rfl (T8 (M:=0) ok uN rfl (.inl E)) ?_;rintro v _ ⟨B,D,C,F,m0,t,rfl,rfl,_,_⟩;refine Z ?_;refine RJ (λ(j:LkI) k=>dV j.L j.W j.S j.n/\(0<=j.it/\j.it<=4)/\(j.aw=false->j.st=false/\k=H.tagc [4,cI j.L j.W j.S j.n,j.m])/\(j.aw=true->j.W=1/\j.S=0/\k=H.tagc [6,cI j.L j.W j.S j.n,j.m]))
  (λj=>j.m * 8+(5-j.it).toNat) (λj=>[(0,ptr c.M),(2,.int .i64 j.ws),(3,.bool j.st),(4,.bool j.aw),(5,.int .i64 j.it),(6,.int .i32 (cI j.L j.W j.S j.n:Nat))]) (λ_=>[]) ⟨false,false,0,0,B,D,C,F,m0⟩
  ⟨t,by simp,λ_=>⟨rfl,rfl⟩,λe=>by simp at e⟩ V trivial ?_
 rintro⟨r,st,it,zF,L,W,S,n,m⟩ k ⟨hB,z,o,p⟩;simp only at hB z o p;refine Z ?_;refine Zm rfl rfl (.inl rfl) hB.pE (Z ?_);have s:True:=trivial;cases r with
 | false=>
  obtain⟨rfl,rfl⟩:=o rfl;by_cases w:L=1/\S=0
  ·obtain⟨rfl,rfl⟩:=w;refine YB rfl rfl rfl (by simp) (Z ?_);refine OC ZmD (vs:=[.int .i64 it]) rfl (Zgx rfl ?_);intro b hb;cases b
   ·refine Z ?_;refine Zm rfl rfl (.inl rfl) hB.jM (Z ?_);refine YB rfl rfl rfl (by simp) (Z ?_);refine Zm rfl rfl (.inr (.inl rfl)) hB.J4 (Z ?_);refine Zm rfl rfl (.inl rfl) hB.pE (Z ?_);refine YT rfl rfl rfl (by simp) (Z ?_);refine Lc rfl rfl hB.B6 (Z ?_);refine Zq YH (vs:=[ptr c.M,.int .i32 (cI 1 W 0 n:Nat),.int .i32 (cI 1 W 0 (n+1):Nat)]) rfl (Wh (M:=m) ok YH hB O (by rfl)) ?_;rintro v _ (⟨rfl,rfl⟩ | ⟨rfl,rfl⟩)
    ·exact Kc
    exact Ke
   have q:=hb rfl;refine Z ?_;refine Zm rfl rfl (.inl rfl) hB.vQ (Z ?_);rcases zO hB.W with rfl | rfl
   ·refine YB rfl rfl rfl (by simp) (Z ?_);refine Vr rfl rfl (.inl rfl) (by decide) hB.n6 (Z ?_);by_cases A:n=0
    ·refine Z6 rfl rfl rfl (by simpa using A) ?_;exact Zib
    refine YT rfl rfl rfl (by simpa using A) (Z ?_);refine Zm rfl rfl (.inr (.inl rfl)) hB.or2 (Z ?_);refine Zq YH (vs:=[ptr c.M,.int .i32 (cI 1 0 0 n:Nat),.int .i32 (cI 1 1 0 n:Nat)]) rfl (Zyx (M:=m) ok YH hB (by rfl)) ?_;rintro v _ (⟨rfl,rfl⟩ | ⟨rfl,rfl⟩)
    ·refine Z ?_;refine Z ?_;refine OC X3 (vs:=[]) rfl ?_;refine(LU ?_);refine Z ?_;refine Yc rfl rfl rfl ⟨by unfold pZ;simp only;omega,?_⟩;refine Z ?_;refine Ve rfl (T9 (M:=m) ok uN rfl (.inl rfl)) ?_;rintro v _ ⟨L2,n2,m2,fP,rfl,rfl,hm,_⟩;have hm:=hm rfl;refine Z ?_;exact⟨⟨true,false,(it+1),zF,L2,1,0,n2,m2⟩,by simp only;omega,⟨fP,by simp only;omega,λe=>by simp at e,λ_=>⟨rfl,rfl,rfl⟩⟩,V,trivial,rfl⟩
    refine Z ?_;refine Z ?_;refine OC X3 (vs:=[]) rfl ?_;refine(LU ?_);refine Z ?_;refine Yc rfl rfl rfl ⟨by unfold pZ;simp only;omega,?_⟩;refine Z ?_;refine Ve rfl (T8 (M:=m) ok uN rfl (.inr (.inl rfl))) ?_;rintro v _ ⟨L2,W2,S2,n2,m2,fP,rfl,rfl,hm,_⟩;have hm:=hm rfl;refine Z ?_;exact⟨⟨false,false,(it+1),zF,L2,W2,S2,n2,m2⟩,by simp only;omega,⟨fP,by simp only;omega,λ_=>⟨rfl,rfl⟩,λe=>by simp at e⟩,V,trivial,rfl⟩
   refine Yb rfl rfl rfl (by simp) ?_;exact Zib
  refine Yb rfl rfl rfl O (Z ?_);rcases zO hB.S with rfl | rfl
  ·have u:L=0:=by have:=hB.L;omega
   subst u;refine Zm rfl rfl (.inl rfl) hB.jM (Z ?_);refine YB rfl rfl rfl (by simp) (Z ?_);refine Zm rfl rfl (.inr (.inl rfl)) hB.J4 (Z ?_);refine Zm rfl rfl (.inl rfl) hB.pE (Z ?_);refine Z6 rfl rfl rfl (by simp) (Z ?_);refine Zq YH (vs:=[ptr c.M,.int .i32 (cI 0 W 0 n:Nat),.int .i32 (cI 1 W 0 n:Nat)]) rfl (Zyw (M:=m) ok YH hB (by rfl)) ?_;rintro v _ (⟨rfl,rfl⟩ | ⟨rfl,rfl⟩)
   ·exact Mv
   exact Ke
  refine Zm rfl rfl (.inl rfl) hB.jM (Z ?_);refine Yb rfl rfl rfl (by simp) (Z ?_);refine Zm rfl rfl (.inl rfl) hB.pE (Z ?_);refine YT rfl rfl rfl O (Z ?_);refine Lc rfl rfl hB.B6 (Z ?_);refine Zq YH (vs:=[ptr c.M,.int .i32 (cI L W 1 n:Nat),.int .i32 (cI L W 1 (n+1):Nat)]) rfl (Wh (M:=m) ok YH hB O (by rfl)) ?_;rintro v _ (⟨rfl,rfl⟩ | ⟨rfl,rfl⟩)
  ·exact Kc
  exact Ke
 | true=>
  obtain⟨rfl,rfl,rfl⟩:=p rfl;rcases zO hB.L with rfl | rfl
  ·refine Yb rfl rfl rfl (by simp) (Z ?_);refine Zm rfl rfl (.inl rfl) hB.jM (Z ?_);refine YB rfl rfl rfl (by simp) (Z ?_);refine Zm rfl rfl (.inr (.inl rfl)) hB.J4 (Z ?_);refine Zm rfl rfl (.inl rfl) hB.pE (Z ?_);have a:dV 1 1 0 n:=⟨O,O,O,hB.n⟩;refine Z6 rfl rfl rfl (by simp) ?_;cases st
   ·refine Z ?_;refine Zm rfl rfl (.inl rfl) a.vQ (Z ?_);refine Yb rfl rfl rfl (by simp) (Z ?_);refine Zm rfl rfl (.inr (.inr (.inl rfl))) a.yE (Z ?_);refine Zq YH (vs:=[ptr c.M,.int .i32 (cI 0 1 0 n:Nat),.int .i32 (cI 1 0 0 n:Nat)]) rfl (Wj (M:=m) ok YH hB (by rfl)) ?_;rintro v _ (⟨rfl,rfl⟩ | ⟨rfl,rfl⟩)
    ·exact Mv
    exact Zia
   refine Z ?_;refine Zm rfl rfl (.inl rfl) hB.and1 (Z ?_);refine Z6 rfl rfl rfl (by simp) (Z ?_);refine Zm rfl rfl (.inl rfl) a.vQ (Z ?_);refine Yb rfl rfl rfl (by simp) (Z ?_);refine Zm rfl rfl (.inr (.inr (.inl rfl))) a.yE (Z ?_);refine Zq YH (vs:=[ptr c.M,.int .i32 (cI 0 1 0 n:Nat),.int .i32 (cI 1 0 0 n:Nat)]) rfl (Wj (M:=m) ok YH hB (by rfl)) ?_;rintro v _ (⟨rfl,rfl⟩ | ⟨rfl,rfl⟩)
   ·exact Mv
   exact Zh9
  refine YB rfl rfl rfl (by simp) (Z ?_);refine OC ZmD (vs:=[.int .i64 it]) rfl (Zgx rfl ?_);intro b hb;cases b
  ·refine Z ?_;refine Zm rfl rfl (.inl rfl) hB.jM (Z ?_);refine YB rfl rfl rfl (by simp) (Z ?_);refine Zm rfl rfl (.inr (.inl rfl)) hB.J4 (Z ?_);refine Zm rfl rfl (.inl rfl) hB.pE (Z ?_);have a:dV 1 1 0 n:=⟨O,O,O,hB.n⟩;refine YT rfl rfl rfl (by simp) (Z ?_);refine Lc rfl rfl hB.B6 ?_;have h:YP 1 1 0 (n+1):=⟨O,O,O,by have:=hB.n;omega⟩;have l:YP 1 1 1 (n+1):=⟨O,O,O,by have:=hB.n;omega⟩;cases st
   ·refine Z ?_;refine Zm rfl rfl (.inl rfl) h.vQ (Z ?_);refine Yb rfl rfl rfl (by simp) (Z ?_);refine Zm rfl rfl (.inr (.inr (.inl rfl))) h.yE (Z ?_);refine Zq YH (vs:=[ptr c.M,.int .i32 (cI 1 1 0 n:Nat),.int .i32 (cI 1 0 0 (n+1):Nat)]) rfl (Wi (M:=m) ok YH false hB (by rfl)) ?_;rintro v _ (⟨rfl,rfl⟩ | ⟨rfl,rfl⟩)
    ·exact Kc
    exact Zia
   refine Z ?_;refine Zm rfl rfl (.inl rfl) hB.and1 (Z ?_);refine YT rfl rfl rfl (by simp) (Z ?_);refine Zm rfl rfl (.inr (.inl rfl)) h.or4 (Z ?_);refine Zm rfl rfl (.inl rfl) l.vQ (Z ?_);refine Yb rfl rfl rfl (by simp) (Z ?_);refine Zm rfl rfl (.inr (.inr (.inl rfl))) l.yE (Z ?_);refine Zq YH (vs:=[ptr c.M,.int .i32 (cI 1 1 0 n:Nat),.int .i32 (cI 1 0 1 (n+1):Nat)]) rfl (Wi (M:=m) ok YH true hB (by rfl)) ?_;rintro v _ (⟨rfl,rfl⟩ | ⟨rfl,rfl⟩)
   ·refine Z ?_;refine Z ?_;refine Zm rfl rfl (.inl rfl) hB.pE (Z ?_);refine Yb rfl rfl rfl O (Z ?_);by_cases D1:zF=0
    ·refine Z6 rfl rfl rfl D1 (Z ?_);refine YB rfl rfl rfl D1 (Z ?_);refine Zq FY (vs:=[]) rfl (WC ok FY WX (by simp[Vb,cd])) ?_;rintro v _ ⟨⟨z1,rfl⟩,rfl⟩;refine Z ?_;refine Zq OP (vs:=[.pointer (some ((dZ c.M).add 1)),_,.int .i64 2]) rfl (WE ok OP rfl (by rfl)) ?_;rintro v _ ⟨rfl,rfl⟩;refine Z ?_;refine Ve rfl (K6 (M:=m) ok uN rfl (by rfl)) ?_;rintro v _ (⟨L2,n2,m2,fP,rfl,rfl,hm⟩ | ⟨n2,fP,yJ,rfl,rfl⟩)
     ·refine Z ?_;refine Zm rfl rfl (.inl rfl) fP.jM (Z ?_);refine Z6 rfl rfl rfl (by simp) (Z ?_);exact⟨⟨true,true,0,z1,L2,1,0,n2,m2⟩,by simp only;omega,⟨fP,by simp only;omega,λe=>by simp at e,λ_=>⟨rfl,rfl,rfl⟩⟩,V,trivial,rfl⟩
     exact Zic
    refine YT rfl rfl rfl D1 (Z ?_);refine Yb rfl rfl rfl D1 (Z ?_);refine Zq OP (vs:=[.pointer (some ((dZ c.M).add 1)),_,.int .i64 2]) rfl (WE ok OP rfl (by rfl)) ?_;rintro v _ ⟨rfl,rfl⟩;refine Z ?_;refine Ve rfl (K6 (M:=m) ok uN rfl (by rfl)) ?_;rintro v _ (⟨L2,n2,m2,fP,rfl,rfl,hm⟩ | ⟨n2,fP,yJ,rfl,rfl⟩)
    ·refine Z ?_;refine Zm rfl rfl (.inl rfl) fP.jM (Z ?_);refine Z6 rfl rfl rfl (by simp) (Z ?_);exact⟨⟨true,true,0,zF,L2,1,0,n2,m2⟩,by simp only;omega,⟨fP,by simp only;omega,λe=>by simp at e,λ_=>⟨rfl,rfl,rfl⟩⟩,V,trivial,rfl⟩
    exact Zic
   exact Zh9
  have q:=hb rfl;refine Z ?_;refine Z ?_;refine OC X3 (vs:=[]) rfl ?_;refine(LU ?_);refine Z ?_;refine Yc rfl rfl rfl ⟨by unfold pZ;simp only;omega,?_⟩;refine Z ?_;refine Ve rfl (T9 (M:=m) ok uN rfl (.inr ⟨_,rfl⟩)) ?_;rintro v _ ⟨L2,n2,m2,fP,rfl,rfl,_,hm⟩;have hm:=hm ⟨_,rfl⟩;refine Z ?_;exact⟨⟨true,st,(it+1),zF,L2,1,0,n2,m2⟩,by simp only;omega,⟨fP,by simp only;omega,λe=>by simp at e,λ_=>⟨rfl,rfl,rfl⟩⟩,V,trivial,rfl⟩
end
end
end Go.Proofs
end
section
open Go Go.LL
namespace Go.LL
section
variable{ty:TypeId}{n v wt:Nat}{f:FuncId}{vs:List Value}{K:Hp->Prop}{ds:List Deferred}
section
variable{P:aX}{d:Option Nat}{next:aM->Hp->Prop}{σ:aM}{H:Hp}{x y:Operand}
def U6{t a:TypeId}{k j:IntKind}{n r:Int}(l:(P.underlying t).isSome=true)(o:P.underlying a=some (.int j))(e:σ.get x=some (.int k n))(q:j.wrap n=r)(h:next (σ.set d (.int j r)) H):(bE.raw (.convert t a x) ty).m P d next σ H:=by
 obtain⟨s,p⟩:=qCj.mp l;refine⟨by simp[Op.operands,e],.inl ?_⟩;have:execOp (λx=>(σ.get x).getD undef) (aR (.convert t a x) ty)=(do pure (.value (<-convert t a (.int k n))):Sem Next):=by simp[execOp,aR,e]
 rw[this,Zg];simp only[convert,Zg,Zw p,Zw o,Conv.intToInt];subst q;exact .inr h
def Jg{a:Array Operand}{j:Array TypeId}(o:σ.gets a.toList=some vs)(h:next ({ σ with dQ:={ target:=.fn (.func f) #[],args:=vs.toArray } :: σ.dQ }.set d undef) H) :
  (bE.raw (.defer { callee:=.value (.func f),args:=a,argTypes:=j }) ty).m P d next σ H:=by
 obtain⟨k,l⟩:=Od o;refine⟨Iz l,.inl ?_⟩;have:execOp (λx=>(σ.get x).getD undef) (aR (.defer { callee:=.value (.func f),args:=a,argTypes:=j }) ty)=pure (.defer { target:=.fn (.func f) #[],args:=vs.toArray }):=by obtain⟨a⟩:=a;have e:(σ.get (.func f)).getD undef=.func (.func f) #[] #[]:=rfl;simp[execOp,aR,resolve,Deferred.ofValue,e,qCo,k]
 rw[this];exact .inr ⟨rfl,rfl,h⟩
def Ks{a:List Zf}{Post:Value->Hp->Prop}(j:a.any Zf.cell=false)(k:U4 σ a=some vs)(h:Uj P σ.dQ (Post (Y5 vs)) H):VL P a Post σ H:=by unfold VL IP;exact Uj.imp (λH h=>⟨λe=>by rw[j]at e;simp at e,vs,Ah k,h⟩) h
def ZiS{vs:Array Value}(e:Uz P.toProgram (callFunc f vs))(h:Zk P (callFunc f vs) false false H λ_ a=>Uj P ds K a):Uj P ({ target:=.fn (.func f) #[],args:=vs } :: ds) K H:=by
 refine⟨rfl,.inr ?_⟩;have:invoke (.fn (.func f) #[]) vs=callFunc f vs:=by simp[invoke]
 rw[this];exact⟨e,h⟩
def Zth{fn:Func}{vs:Array Value}(j:P.funcs[f]? = some fn)(hb:fn.body.isSome=true)(k:(fn.name == "runtime.NumGoroutine")=false)(h:Y2 P .deferred f vs H λ_ e=>Uj P ds K e) :
  Uj P ({ target:=.fn (.func f) #[],args:=vs } :: ds) K H:=by
 refine⟨rfl,.inl ?_⟩;have a:fn.body.isNone=false:=by simpa using hb
 have:invoke (.fn (.func f) #[]) vs=callFunc f vs:=by simp[invoke]
 rw[this];simp only[callFunc,Zg,V0,j,k,a,DO,qAw];exact h
end
def Zyb(v wt m:Nat)(a:wt<4294967296)(e:m<4294967296):jV v wt &&& m=wt &&& m:=by
 refine qDu λi=>?_;rw[qCZ,qCZ,show jV v wt=2 ^ 32 * v+wt by unfold jV;omega,qCM _ (show wt<2 ^ 32 from a)];by_cases h:i<32
 ·simp[h]
 have:m.testBit i=false:=qDf (qBu e (by rw[show(4294967296:Nat)=2 ^ 32 from rfl];exact qBz (by decide) O));simp[this]
def ZiR(x:Nat)(a:x<18446744073709551616):(BitVec.ofInt 64 (x:Nat)).toNat=x:=by simp[qDD];omega
def ZgA{m:Nat}(l:v<=100000002)(k:wt<=1)(j:m<4294967296):Zy .and .u64 (jV v wt:Nat) (m:Nat)=.int .u64 ((wt &&& m:Nat):Int):=by
 have e:jV v wt<18446744073709551616:=by unfold jV;omega
 have a:m<18446744073709551616:=O;have h:wt &&& m<=wt:=Nat.and_le_left;show Value.int .u64 (IntKind.u64.wrap ((BitVec.ofInt 64 (jV v wt:Nat) &&& BitVec.ofInt 64 (m:Nat)).toNat:Nat))=_;rw[qDt,ZiR _ e,ZiR _ a,Zyb v wt m O j,Ls O O]
theorem X8(e:v<=100000002)(a:wt<=1):Zy .and .u64 (jV v wt:Nat) 2147483648=.int .u64 (0:Nat):=by refine(ZgA (m:=2147483648) e a (by decide)).trans ?_;rcases zO a with rfl | rfl<;>rfl
theorem Lq(e:v<=100000002)(a:wt<=1):Zy .and .u64 (jV v wt:Nat) 2147483647=.int .u64 (wt:Nat):=by refine(ZgA (m:=2147483647) e a (by decide)).trans ?_;rcases zO a with rfl | rfl<;>rfl
def Lp(a:wt<=1):Zy .shr .u64 (jV v wt:Nat) 32=.int .u64 (v:Nat):=by show Value.int .u64 (Int.fdiv (jV v wt:Nat) (2 ^ min (Int.toNat (32:Int)) 64))=_;have:(2:Int) ^ min (Int.toNat (32:Int)) 64=4294967296:=rfl;rw[this,qCS _ O];congr 1;unfold jV;omega
def Lt(h:n<=100000002):IntKind.i32.wrap (n:Nat)=(n:Nat):=O0 O O
theorem Lu(h:n<=1):IntKind.u32.wrap (n:Nat)=(n:Nat):=by rcases zO h with rfl | rfl<;>rfl
end
end Go.LL
end
open Go Go.LL
namespace Go.Proofs
section
variable{v:Value}
def ZtW{c:Cx}{i:Nat}(ok:c.Ok){H:Hp}(a:c.need H.hd=true)(e:H.cg=[1]):LL.Zc (pw c i) 150 #[ptr c.M] H λ_ j=>Bs c i H j:=by refine aJ.m (P:=pw c i) Zw9 (args:=[ptr c.M]) rfl ?_;unfold Zkw;refine Z ?_;refine ZW (vs:=[ptr c.M]) rfl (ZtY ok a (λH e=>ZtX ok H e) e) ?_;rintro v j h;refine Z ?_;exact h
def u3:(Tryz.prog.underlying 3).isSome=true:=U
def ZgI:Tryz.prog.underlying 189=some (.int .u64):=U
def LP:(Tryz.prog.underlying 189).isSome=true:=U
def SA:Tryz.prog.underlying 21=some (.int .i32):=U
def Mp:Tryz.prog.underlying 182=some (.int .u32):=U
section
variable{P:aX}{H:Hp}{Post:Value->Hp->Prop}{b:Nat}
def ZgB(a:P.toProgram=Tryz.prog)(h:Zk P (callFunc 225 #[ptr b,v]) true false H Post):LL.Zc P 191 #[ptr b,v] H Post:=by refine aJ.m (P:=P) (by rw[a];exact Zwf) (args:=[ptr b,v]) rfl ?_;unfold ZjC;refine Z ?_;refine Zq (a ▸ Lh) (vs:=[ptr b,v]) rfl h ?_;intro v j e;refine Z ?_;exact e
def Lo(a:P.toProgram=Tryz.prog)(h:Zk P (callFunc 226 #[ptr b]) true false H Post):LL.Zc P 193 #[ptr b] H Post:=by refine aJ.m (P:=P) (by rw[a];exact Zwe) (args:=[ptr b]) rfl ?_;unfold ZjB;refine Z ?_;refine Zq (a ▸ X2) (vs:=[ptr b]) rfl h ?_;intro v j e;refine Z ?_;exact e
def ZnN(e:P.toProgram=Tryz.prog)(h:Zk P (callFunc 227 #[ptr b,v]) true false H λ_ a=>Post Zt a):LL.Zc P 194 #[ptr b,v] H Post:=by refine aJ.m (P:=P) (by rw[e];exact Zwd) (args:=[ptr b,v]) rfl ?_;unfold ZjA;refine Z ?_;refine Zq (e ▸ ZmF) (vs:=[ptr b,v]) rfl h ?_;intro v a j;refine Z ?_;exact j
def ZnM(a:P.toProgram=Tryz.prog){u:Value}(h:Zk P (callFunc 232 #[ptr b,u,v]) true false H Post):LL.Zc P 202 #[ptr b,u,v] H Post:=by refine aJ.m (P:=P) (by rw[a];exact Zwa) (args:=[ptr b,u,v]) rfl ?_;unfold Zjx;refine Z ?_;refine Zq (a ▸ ZmE) (vs:=[ptr b,u,v]) rfl h ?_;intro v j e;refine Z ?_;exact e
end
def ZgC:Uz Tryz.prog (callFunc 186 #[]):=λw=>⟨_,_,_,Q0 (by simp) Yi #[] w⟩
end
variable{kd:CallKind}{H:Hp}{n:Nat}
section
variable{c:Cx}{i:Nat}
noncomputable abbrev pm(c:Cx):aX:=(bO Tryz.prog c).prgM
theorem Zyn(ok:c.Ok)(u:kd=.normal\/kd=.deferred)(B:H.cg=[19,1]):Y2 (pw c i) kd 147 #[ptr c.W,.int .i64 (-1)] H λ_ k=>k=H.tagged (lv 0):=by
 have s:Yw H.cg:=.inl (by rw[B];simp[cd]);refine aJ.mK (P:=pw c i) u Zm4 (args:=[ptr c.W,.int .i64 (-1)]) rfl ?_;unfold Ku;refine Z ?_;refine ZsW rfl rfl rfl (by decide) (Z ?_);refine VF rfl (UU ok Jc rfl (.inr rfl) s) ?_;rintro v o ⟨rfl,e⟩;rw[e];refine Z ?_;refine Zq X1 (vs:=[ptr c.W]) rfl (Zyq ok X1 B) ?_;rintro v _ ⟨rfl,rfl⟩;refine Z ?_;refine Zq UT (vs:=[]) rfl (Zuw ok UT (by rfl)) ?_;rintro v _ ⟨rfl,rfl⟩;refine Z ?_;refine Jg (vs:=[]) rfl (Z ?_);refine OC Xy (vs:=[]) rfl ?_;refine LU (Z ?_);refine U6 u3 ZgI rfl (r:=18446744073709551615) rfl (Z ?_);refine Vr rfl rfl (.inr rfl) (by decide) (v:=.int .u64 18446744069414584320) rfl (Z ?_);refine ZW (vs:=[ptr c.W,.int .u64 18446744069414584320]) rfl (ZgB rfl (Zux ok Lh (by rfl))) ?_;rintro v k ⟨n,wt,L,m,rfl,p⟩;refine Z ?_;refine Zm rfl rfl (.inl rfl) (X8 O m) (Z ?_);refine Z6 rfl rfl rfl rfl (Z ?_);refine Vr rfl rfl (.inl rfl) (by decide) (Lp m) (Z ?_);refine U6 LP SA rfl (Lt O) (Z ?_);refine Zm rfl rfl (.inl rfl) (Lq O m) (Z ?_);refine U6 LP Mp rfl (Lu m) (Z ?_);refine W4 rfl rfl rfl (by decide) (Z ?_);refine W6 rfl rfl rfl O (Z ?_);have l:∀{t:List Zf} {σ:aM} {o:Hp},o=H.tagged (lv 1)->σ.dQ=[{ target:=.fn (.func 186) #[],args:=#[] }]->U4 σ t=some []->t.any Zf.cell=false->VL (pw c i) t (λ_ k=>k=H.tagged (lv 0)) σ o:=by rintro t σ o rfl E F D;refine Ks D F ?_;rw[E];refine ZiS ZgC ((ZtT Yi rfl).mono ?_);rintro v _ ⟨_,rfl⟩;rfl
 by_cases I:wt=0
 ·subst I;have q:k=H.tagged (lv 1):=by
   rcases p with⟨_,h⟩ | ⟨_,h,_⟩
   ·exact h
   simp at h
  refine Z6 rfl rfl rfl rfl (Z ?_);by_cases w:n=0
  ·refine W4 rfl rfl rfl O (Z ?_);refine YB rfl rfl rfl rfl (Z ?_);exact U9 (l q rfl rfl rfl)
  refine QR rfl rfl rfl O (Z ?_);exact U9 (l q rfl rfl rfl)
 have z:wt=1:=O;subst z;refine YT rfl rfl rfl (by simp) (Z ?_);refine W4 rfl rfl rfl (by decide) (Z ?_);rcases p with⟨J,rfl⟩ | ⟨rfl,_,rfl⟩
 ·have w:n≠0:=O;refine QR rfl rfl rfl O (Z ?_);exact U9 (l rfl rfl rfl rfl)
 refine W4 rfl rfl rfl (by decide) (Z ?_);refine Yb rfl rfl rfl (by decide) (Z ?_);refine ZW (vs:=[ptr c.W]) rfl (Lo rfl (Zuv ok X2 (by rfl))) ?_;rintro v _ ⟨rfl,rfl⟩;refine Z ?_;refine Z6 rfl rfl rfl rfl (Z ?_);refine ZW (Post:=λv k=>v=Zt/\k=H.tagc [24]) (vs:=[ptr c.W,.int .u64 0]) rfl (ZnN rfl ((Zut ok ZmF (by rfl)).mono λv H w=>⟨rfl,w.2⟩)) ?_;rintro v _ ⟨rfl,rfl⟩;refine Z ?_;refine RJ (λ(j:Nat) k=>(j=1/\k=H.tagc [24])\/(j=0/\k=H.tagged (lv 1))) id (λj=>[(0,ptr c.W),(8,.int .u32 (j:Nat))]) (λ_=>[]) 1 (.inl ⟨rfl,rfl⟩) V trivial ?_;rintro j o (⟨rfl,rfl⟩ | ⟨rfl,rfl⟩)
 ·refine Z ?_;refine YT rfl rfl rfl (by decide) (Z ?_);refine Zq ZmI (vs:=[.pointer (some ((dZ c.W).add 1)),.bool false,.int .i64 0]) rfl (Zuu ok ZmI rfl (by rfl)) ?_;rintro v _ ⟨rfl,rfl⟩;refine Z ?_;refine Zm rfl rfl (.inr (.inr (.inr rfl))) (v:=.int .u32 (0:Nat)) rfl (Z ?_);exact⟨0,by simp,.inr ⟨rfl,rfl⟩,V,trivial,rfl⟩
 refine Z ?_;refine Z6 rfl rfl rfl rfl (Z ?_);exact L0 (l rfl rfl rfl rfl)
theorem Zvg(ok:c.Ok)(a:kd=.normal\/kd=.deferred)(h:H.cg=[19,1]):Y2 (pw c i) kd 149 #[ptr c.W] H λ_ e=>e=H.tagged (lv 0):=by refine aJ.mK (P:=pw c i) a Zxk (args:=[ptr c.W]) rfl ?_;unfold ZkH;refine Z ?_;refine ZW (vs:=[ptr c.W,.int .i64 (-1)]) rfl (Zyn ok (.inl rfl) h).pD ?_;rintro v _ rfl;refine Z ?_;rfl
theorem Zyo(ok:c.Ok)(t:H.cg=[30,n]):LL.Zc (pm c) 147 #[ptr c.W,.int .i64 1] H λ_ j=>j=H.tagc [33,n]:=by
 refine aJ.m (P:=pm c) Zm4 (args:=[ptr c.W,.int .i64 1]) rfl ?_;unfold Ku;refine Z ?_;refine W6 rfl rfl rfl (by decide) (Z ?_);refine Zq UT (vs:=[]) rfl (ZtO ok UT t) ?_;rintro v _ ⟨rfl,rfl⟩;refine Z ?_;refine Jg (vs:=[]) rfl (Z ?_);refine OC Xy (vs:=[]) rfl ?_;refine LU (Z ?_);refine U6 u3 ZgI rfl (r:=1) rfl (Z ?_);refine Vr rfl rfl (.inr rfl) (by decide) (v:=.int .u64 4294967296) rfl (Z ?_);refine ZW (vs:=[ptr c.W,.int .u64 4294967296]) rfl (ZgB rfl (ZtR ok Lh (n:=n) (by rfl))) ?_;rintro v _ ⟨k,w,rfl,rfl⟩;refine Z ?_;refine Zm rfl rfl (.inl rfl) (X8 O O) (Z ?_);refine Z6 rfl rfl rfl rfl (Z ?_);refine Vr rfl rfl (.inl rfl) (by decide) (Lp O) (Z ?_);refine U6 LP SA rfl (Lt O) (Z ?_);refine Zm rfl rfl (.inl rfl) (Lq O O) (Z ?_);refine U6 LP Mp rfl (Lu O) (Z ?_);refine QR rfl rfl rfl (by decide) (Z ?_);refine U6 u3 SA rfl (r:=1) rfl (Z ?_);have e:∀{h:List Zf} {σ:aM} {l:Hp},l=H.tagc [32,n]->σ.dQ=[{ target:=.fn (.func 186) #[],args:=#[] }]->U4 σ h=some []->h.any Zf.cell=false->VL (pm c) h (λ_ j=>j=H.tagc [33,n]) σ l:=by rintro h σ l rfl s u q;refine Ks q u ?_;rw[s];refine ZiS ZgC ((ZtM ok Yi rfl).mono ?_);rintro v _ ⟨_,rfl⟩;rfl
 by_cases p:k=0
 ·subst p;refine YB rfl rfl rfl rfl (Z ?_);refine VF rfl (XZ Xv rfl (.inr rfl) (by simp[Vb,cd])) ?_;rintro v _ ⟨rfl,rfl⟩;refine Z ?_;refine Zq Xz (vs:=[.pointer (some ⟨c.W,1,none⟩)]) rfl (ZlA ok (.inl rfl) Xz (.inl ⟨n,rfl⟩)) ?_;rintro v _ ⟨rfl,rfl⟩;refine Z ?_;refine W6 rfl rfl rfl (by decide) (Z ?_);refine Z6 rfl rfl rfl rfl (Z ?_);refine QR rfl rfl rfl (by decide) (Z ?_);exact U9 (e rfl rfl rfl rfl)
 refine Yb rfl rfl rfl O (Z ?_);refine W6 rfl rfl rfl O (Z ?_);refine Z6 rfl rfl rfl rfl (Z ?_);refine QR rfl rfl rfl O (Z ?_);exact U9 (e rfl rfl rfl rfl)
end
section
variable{c:Cx}
def Ty(c:Cx)(H e:Hp):Prop:=∃(l:List Nat) (a:Hp),c.PI l a/\(∀m,1<=m->m<=c.N->c.need m=true->m∈l)/\(∀m∈l,1<=m/\m<=c.N/\c.need m=true)/\l.Nodup/\a.gh=[]/\(H.tagc [40]).Comp a/\e=(H.tagc [40]).join a
def ZnC(h:n<=100000001):IntKind.u64.wrap ((jV n 0:Nat)+1)=((jV n 1:Nat):Int):=by
 have e:((jV n 0:Nat):Int)+1=((jV n 1:Nat):Int):=by unfold jV;omega
 rw[<-e,Ls O (by unfold jV;omega)]
def Zs5{P:aX}{d:Option Nat}{next:aM->Hp->Prop}{σ:aM}{x y:Operand}{m n r:Int}(a:σ.get x=some (.int .u64 m))(e:σ.get y=some (.int .u64 n))(j:IntKind.u64.wrap (m+n)=r)(h:next (σ.set d (.int .u64 r)) H):(bE.aY .add x y).m P d next σ H:=
 Yc a e rfl (by subst j;exact h)
theorem ZnK(ok:c.Ok)(r:H.cg=[30,c.K])(k:H.hd=0):LL.Zc (pm c) 153 #[ptr c.W] H λ_ h=>Ty c H h:=by
 refine aJ.m (P:=pm c) ZwW (args:=[ptr c.W]) rfl ?_;unfold Zkj;refine Z ?_;refine Zq UT (vs:=[]) rfl (ZtN ok UT r k) ?_;rintro v _ ⟨rfl,rfl⟩;refine Z ?_;refine RJ (λ(j:Option Nat) h=>h=H.tagc (34 :: j.toList)) (λj=>j.getD 100000003) (λ_=>[(0,ptr c.W)]) (λ_=>[]) none rfl V trivial ?_;rintro j _ rfl;refine Z ?_;refine ZW (vs:=[ptr c.W]) rfl (Lo rfl (ZtK ok X2 (l0:=j.toList) (by rfl))) ?_;rintro v h ⟨n,s,rfl,o,l⟩;refine Z ?_;refine Vr rfl rfl (.inl rfl) (by decide) (Lp O) (Z ?_);refine U6 LP SA rfl (Lt O) (Z ?_);refine Zm rfl rfl (.inl rfl) (Lq O O) (Z ?_);refine U6 LP Mp rfl (Lu O) (Z ?_);rcases l with⟨rfl,rfl⟩ | ⟨k,rfl⟩
 ·refine YB rfl rfl rfl rfl (Z ?_);refine Zq Yi (vs:=[]) rfl (ZlB ok Yi (by rfl)) ?_;rintro v _ ⟨rfl,rfl⟩;refine Z ?_;refine VF rfl (XZ Jc rfl (.inl rfl) (by simp[Vb,cd])) ?_;rintro v p ⟨rfl,e⟩;rw[e];refine Z ?_;refine Zq YI (vs:=[ptr c.W]) rfl (ZlC ok YI (by rfl)) ?_;rintro v q ⟨rfl,a⟩;refine Z ?_;refine YB rfl rfl rfl rfl (Z ?_);refine Zm rfl rfl (.inl rfl) (X8 O O) (Z ?_);refine Z6 rfl rfl rfl rfl (Z ?_);exact a
 refine Yb rfl rfl rfl O (Z ?_);refine Zs5 rfl rfl (ZnC s) (Z ?_);refine ZW (vs:=[ptr c.W,.int .u64 (jV n 0:Nat),.int .u64 (jV n 1:Nat)]) rfl (ZnM rfl (ZtQ ok ZmE k (by rfl))) ?_;rintro v _ (⟨rfl,rfl⟩ | ⟨rfl,rfl⟩)
 ·refine Z ?_;refine YB rfl rfl rfl rfl (Z ?_);refine VF rfl (XZ Xv rfl (.inr rfl) (by simp[Vb,cd])) ?_;rintro v p ⟨rfl,e⟩;rw[e];refine Z ?_;refine Zq ZmH (vs:=[.pointer (some ⟨c.W,1,none⟩)]) rfl (ZlA ok (.inr rfl) ZmH (.inr rfl)) ?_;rintro v q ⟨rfl,e⟩;rw[e];refine Z ?_;refine Zm rfl rfl (.inl rfl) (X8 O O) (Z ?_);refine Z6 rfl rfl rfl rfl (Z ?_);refine Zq ZmG (vs:=[.pointer (some ((dZ c.W).add 1)),.bool false]) rfl (ZtI ok ZmG rfl (by rfl)) ?_;rintro v _ ⟨rfl,rfl⟩;refine Z ?_;refine ZW (vs:=[ptr c.W]) rfl (Lo rfl (ZtJ ok X2 (by rfl))) ?_;rintro v _ ⟨rfl,rfl⟩;refine Z ?_;refine Z6 rfl rfl rfl rfl (Z ?_);refine Zq Yi (vs:=[]) rfl (ZlB ok Yi (by rfl)) ?_;rintro v _ ⟨rfl,rfl⟩;refine Z ?_;refine VF rfl (XZ Jc rfl (.inl rfl) (by simp[Vb,cd])) ?_;rintro v u ⟨rfl,e⟩;rw[e];refine Z ?_;refine Zq YI (vs:=[ptr c.W]) rfl (ZlC ok YI (by rfl)) ?_;rintro v w ⟨rfl,a⟩;refine Z ?_;exact a
 refine Z ?_;refine⟨some n,?_,rfl,V,trivial,rfl⟩;cases j with
 | none=>simp;omega
 | some t=>exact o t rfl
end
