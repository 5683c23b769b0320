import Derived.Test.YtamdhefhhdgjbaaGreatDoorN39
set_option linter.all false
section
open Go Go.LL
namespace Go.Proofs
theorem ZnD {G:Prop} (h:G:=by
  refine wsT ?_
  refine Zaq rfl rfl (.inl rfl) hB.and5 ?_
  refine wsT ?_
  refine Za1 rfl rfl rfl (by simp) ?_
  exact ZnF):G:=h
theorem qNLkD6 {G:Prop} (h:G:=by
  refine wsT ?_
  refine Zb9 rfl (ZeN (M:=m) ok t21 rfl (.inl rfl)) ?_
  rintro v _ ⟨L2,n2,m2,hB2,rfl,rfl,hm,_⟩
  have hm:=hm rfl
  refine wsT ?_
  exact⟨⟨true,true,it,wst,L2,1,0,n2,m2⟩,by simp only;omega,⟨hB2,by simp only;omega,fun e=>by simp at e,fun _=>⟨rfl,rfl,rfl⟩⟩,⟨rfl,rfl,rfl,rfl,rfl,rfl,trivial⟩,trivial,rfl⟩):G:=h
theorem qNLkD5 {G:Prop} (h:G:=by
  refine wsT ?_
  refine Zb9 rfl (ZeN (M:=m) ok t21 rfl (.inl rfl)) ?_
  rintro v _ ⟨L2,n2,m2,hB2,rfl,rfl,hm,_⟩
  have hm:=hm rfl
  refine wsT ?_
  exact⟨⟨true,false,it,wst,L2,1,0,n2,m2⟩,by simp only;omega,⟨hB2,by simp only;omega,fun e=>by simp at e,fun _=>⟨rfl,rfl,rfl⟩⟩,⟨rfl,rfl,rfl,rfl,rfl,rfl,trivial⟩,trivial,rfl⟩):G:=h
theorem qNLkD4 {G:Prop} (h:G:=by
  refine wsT ?_
  refine Zfz e209 (vs:=[]) rfl ?_
  refine(ZcN ?_)
  refine wsT ?_
  refine Za3 rfl rfl rfl ⟨by unfold InR;simp only;omega,?_⟩
  refine wsT ?_
  refine Zb9 rfl (ZeO (M:=m) ok t21 rfl (.inr (.inr ⟨_,rfl⟩))) ?_
  rintro v _ ⟨L2,W2,S2,n2,m2,hB2,rfl,rfl,_,hm⟩
  have hm:=hm ⟨_,rfl⟩
  refine wsT ?_
  exact⟨⟨false,false,(it+1),wst,L2,W2,S2,n2,m2⟩,by simp only;omega,⟨hB2,by simp only;omega,fun _=>⟨rfl,rfl⟩,fun e=>by simp at e⟩,⟨rfl,rfl,rfl,rfl,rfl,rfl,trivial⟩,trivial,rfl⟩):G:=h
theorem ZnE {G:Prop} (h:G:=by
  refine wsT ?_
  refine Zb9 rfl (ZeO (M:=m) ok t21 rfl (.inr (.inl rfl))) ?_
  rintro v _ ⟨L2,W2,S2,n2,m2,hB2,rfl,rfl,hm,_⟩
  have hm:=hm rfl
  refine wsT ?_
  exact⟨⟨false,false,it,wst,L2,W2,S2,n2,m2⟩,by simp only;omega,⟨hB2,by simp only;omega,fun _=>⟨rfl,rfl⟩,fun e=>by simp at e⟩,⟨rfl,rfl,rfl,rfl,rfl,rfl,trivial⟩,trivial,rfl⟩):G:=h
theorem qNLkD2 {G:Prop} (h:G:=by
  refine wsT ?_
  refine Zaq rfl rfl (.inl rfl) hB2.and4 ?_
  refine wsT ?_
  refine Zbi rfl rfl rfl (by simp) ?_
  refine wsT ?_
  refine Zaq rfl rfl (.inl rfl) hB2.and3 ?_
  refine wsT ?_
  refine ZaF rfl rfl rfl (by simp) ?_
  refine wsT ?_
  refine Zbc rfl rfl (.inl rfl) (by decide) hB2.shr3 ?_
  refine wsT ?_
  refine ZaK rfl rfl rfl (by omega) ?_
  refine wsT ?_
  refine Zbc rfl rfl (.inl rfl) (by decide) hB2.shr3 ?_
  refine wsT ?_
  by_cases h1:n2=1
  ·refine Za1 rfl rfl rfl (by omega) ?_
   refine wsT ?_
   refine Zaq rfl rfl (.inr (.inr (.inr rfl))) (v:=.int .i32 (-11)) rfl ?_
   refine wsT ?_
   refine ZaC e196 (vs:=[ptr c.M,.int .i32 (-11)]) rfl (ZcF ok e196 hB2 hn2 true (fun e=>by simp at e) (by rfl)) ?_
   rintro v _ ⟨⟨z,rfl⟩,rfl⟩
   exact ZnF
  ·refine ZaK rfl rfl rfl (by omega) ?_
   refine wsT ?_
   refine ZaC e196 (vs:=[ptr c.M,.int .i32 (-7)]) rfl (ZcF ok e196 hB2 hn2 false (fun _=>h1) (by rfl)) ?_
   rintro v _ ⟨⟨z,rfl⟩,rfl⟩
   exact ZnF):G:=h
theorem ZnF {G:Prop} (h:G:=by
  refine wsT ?_
  refine ZaC e152 (vs:=[]) rfl (ZaN ok e152 (by rfl)) ?_
  rintro v _ ⟨rfl,rfl⟩
  refine wsT ?_
  refine ZcD rfl (Zb1 ok Zdg rfl (.inl rfl) (.inl (by simp[Hp.tagged,cd]))) ?_
  rintro v _ ⟨rfl,rfl⟩
  refine wsT ?_
  refine ZaC e165 (vs:=[ptr c.M]) rfl (ZcE ok e165 rfl) ?_
  rintro v _ ⟨rfl,l,Hl,h1,h2,h3,h4,h5,rfl⟩
  refine wsT ?_
  exact⟨l,Hl,h1,h2,h3,h4,h5,rfl⟩):G:=h
theorem ZnG {G:Prop} (h:G:=by
  refine wsT ?_
  refine wsT ?_
  refine Zaq rfl rfl (.inl rfl) hB.and5 ?_
  refine wsT ?_
  refine ZaK rfl rfl rfl (by omega) ?_
  refine wsT ?_
  by_cases hw0:wst=0
  ·refine ZaF rfl rfl rfl hw0 ?_
   refine wsT ?_
   refine Za1 rfl rfl rfl hw0 ?_
   refine wsT ?_
   refine ZaC e211 (vs:=[]) rfl (Zgc ok e211 nr211 (by simp[Hp.tagged,cd])) ?_
   rintro v _ ⟨⟨z1,rfl⟩,rfl⟩
   refine wsT ?_
   refine ZaC e212 (vs:=[.pointer (some ((mkA c.M).add 1)),_,.int .i64 2]) rfl (Zi4 ok e212 rfl (by rfl)) ?_
   rintro v _ ⟨rfl,rfl⟩
   refine wsT ?_
   refine ZaC e211 (vs:=[]) rfl (Zgc ok e211 nr211 (by simp[Hp.tagged,cd])) ?_
   rintro v _ ⟨⟨z2,rfl⟩,rfl⟩
   refine wsT ?_
   refine Zaq rfl rfl (.inr (.inr (.inr rfl))) rfl ?_
   refine wsT ?_
   refine Za3 rfl rfl rfl ?_
   intro b3 _
   refine wsT ?_
   cases b3
   ·refine wsT ?_
    refine Zb9 rfl (Zc2 (M:=m) ok t21 rfl (by rfl)) ?_
    rintro v _ (⟨L2,n2,m2,hB2,rfl,rfl,hm⟩ | ⟨n2,hB2,hn2,rfl,rfl⟩)
    ·refine wsT ?_
     refine Zaq rfl rfl (.inl rfl) hB2.and4 ?_
     refine wsT ?_
     refine ZaF rfl rfl rfl (by simp) ?_
     refine wsT ?_
     exact⟨⟨true,false,0,z1,L2,1,0,n2,m2⟩,by simp only;omega,⟨hB2,by simp only;omega,fun e=>by simp at e,fun _=>⟨rfl,rfl,rfl⟩⟩,⟨rfl,rfl,rfl,rfl,rfl,rfl,trivial⟩,trivial,rfl⟩
    ·refine wsT ?_
     refine Zaq rfl rfl (.inl rfl) hB2.and4 ?_
     refine wsT ?_
     refine Zbi rfl rfl rfl (by simp) ?_
     refine wsT ?_
     refine Zaq rfl rfl (.inl rfl) hB2.and3 ?_
     refine wsT ?_
     refine ZaF rfl rfl rfl (by simp) ?_
     refine wsT ?_
     refine Zbc rfl rfl (.inl rfl) (by decide) hB2.shr3 ?_
     refine wsT ?_
     refine ZaK rfl rfl rfl (by omega) ?_
     refine wsT ?_
     refine Zaq rfl rfl (.inr (.inr (.inr rfl))) (v:=.int .i32 (-11)) rfl ?_
     refine wsT ?_
     refine ZaC e196 (vs:=[ptr c.M,.int .i32 (-11)]) rfl (ZcF ok e196 hB2 hn2 true (fun e=>by simp at e) (by rfl)) ?_
     rintro v _ ⟨⟨z,rfl⟩,rfl⟩
     refine wsT ?_
     refine ZaC e152 (vs:=[]) rfl (ZaN ok e152 (by rfl)) ?_
     rintro v _ ⟨rfl,rfl⟩
     refine wsT ?_
     refine ZcD rfl (Zb1 ok Zdg rfl (.inl rfl) (.inl (by simp[Hp.tagged,cd]))) ?_
     rintro v _ ⟨rfl,rfl⟩
     refine wsT ?_
     refine ZaC e165 (vs:=[ptr c.M]) rfl (ZcE ok e165 rfl) ?_
     rintro v _ ⟨rfl,l,Hl,h1,h2,h3,h4,h5,rfl⟩
     refine wsT ?_
     exact⟨l,Hl,h1,h2,h3,h4,h5,rfl⟩
   ·refine wsT ?_
    refine Zb9 rfl (Zc2 (M:=m) ok t21 rfl (by rfl)) ?_
    rintro v _ (⟨L2,n2,m2,hB2,rfl,rfl,hm⟩ | ⟨n2,hB2,hn2,rfl,rfl⟩)
    ·refine wsT ?_
     refine Zaq rfl rfl (.inl rfl) hB2.and4 ?_
     refine wsT ?_
     refine ZaF rfl rfl rfl (by simp) ?_
     refine wsT ?_
     exact⟨⟨true,true,0,z1,L2,1,0,n2,m2⟩,by simp only;omega,⟨hB2,by simp only;omega,fun e=>by simp at e,fun _=>⟨rfl,rfl,rfl⟩⟩,⟨rfl,rfl,rfl,rfl,rfl,rfl,trivial⟩,trivial,rfl⟩
    ·refine wsT ?_
     refine Zaq rfl rfl (.inl rfl) hB2.and4 ?_
     refine wsT ?_
     refine Zbi rfl rfl rfl (by simp) ?_
     refine wsT ?_
     refine Zaq rfl rfl (.inl rfl) hB2.and3 ?_
     refine wsT ?_
     refine ZaF rfl rfl rfl (by simp) ?_
     refine wsT ?_
     refine Zbc rfl rfl (.inl rfl) (by decide) hB2.shr3 ?_
     refine wsT ?_
     refine ZaK rfl rfl rfl (by omega) ?_
     refine wsT ?_
     refine Zbc rfl rfl (.inl rfl) (by decide) hB2.shr3 ?_
     refine wsT ?_
     by_cases h1:n2=1
     ·refine Za1 rfl rfl rfl (by omega) ?_
      refine wsT ?_
      refine Zaq rfl rfl (.inr (.inr (.inr rfl))) (v:=.int .i32 (-11)) rfl ?_
      refine wsT ?_
      refine ZaC e196 (vs:=[ptr c.M,.int .i32 (-11)]) rfl (ZcF ok e196 hB2 hn2 true (fun e=>by simp at e) (by rfl)) ?_
      rintro v _ ⟨⟨z,rfl⟩,rfl⟩
      refine wsT ?_
      refine ZaC e152 (vs:=[]) rfl (ZaN ok e152 (by rfl)) ?_
      rintro v _ ⟨rfl,rfl⟩
      refine wsT ?_
      refine ZcD rfl (Zb1 ok Zdg rfl (.inl rfl) (.inl (by simp[Hp.tagged,cd]))) ?_
      rintro v _ ⟨rfl,rfl⟩
      refine wsT ?_
      refine ZaC e165 (vs:=[ptr c.M]) rfl (ZcE ok e165 rfl) ?_
      rintro v _ ⟨rfl,l,Hl,h1,h2,h3,h4,h5,rfl⟩
      refine wsT ?_
      exact⟨l,Hl,h1,h2,h3,h4,h5,rfl⟩
     ·refine ZaK rfl rfl rfl (by omega) ?_
      refine wsT ?_
      refine ZaC e196 (vs:=[ptr c.M,.int .i32 (-7)]) rfl (ZcF ok e196 hB2 hn2 false (fun _=>h1) (by rfl)) ?_
      rintro v _ ⟨⟨z,rfl⟩,rfl⟩
      refine wsT ?_
      refine ZaC e152 (vs:=[]) rfl (ZaN ok e152 (by rfl)) ?_
      rintro v _ ⟨rfl,rfl⟩
      refine wsT ?_
      refine ZcD rfl (Zb1 ok Zdg rfl (.inl rfl) (.inl (by simp[Hp.tagged,cd]))) ?_
      rintro v _ ⟨rfl,rfl⟩
      refine wsT ?_
      refine ZaC e165 (vs:=[ptr c.M]) rfl (ZcE ok e165 rfl) ?_
      rintro v _ ⟨rfl,l,Hl,h1,h2,h3,h4,h5,rfl⟩
      refine wsT ?_
      exact⟨l,Hl,h1,h2,h3,h4,h5,rfl⟩
  ·refine Zbi rfl rfl rfl hw0 ?_
   refine wsT ?_
   refine ZaK rfl rfl rfl hw0 ?_
   refine wsT ?_
   refine ZaC e212 (vs:=[.pointer (some ((mkA c.M).add 1)),_,.int .i64 2]) rfl (Zi4 ok e212 rfl (by rfl)) ?_
   rintro v _ ⟨rfl,rfl⟩
   refine wsT ?_
   refine ZaC e211 (vs:=[]) rfl (Zgc ok e211 nr211 (by simp[Hp.tagged,cd])) ?_
   rintro v _ ⟨⟨z2,rfl⟩,rfl⟩
   refine wsT ?_
   refine Zaq rfl rfl (.inr (.inr (.inr rfl))) rfl ?_
   refine wsT ?_
   refine Za3 rfl rfl rfl ?_
   intro b3 _
   refine wsT ?_
   cases b3
   ·refine wsT ?_
    refine Zb9 rfl (Zc2 (M:=m) ok t21 rfl (by rfl)) ?_
    rintro v _ (⟨L2,n2,m2,hB2,rfl,rfl,hm⟩ | ⟨n2,hB2,hn2,rfl,rfl⟩)
    ·refine wsT ?_
     refine Zaq rfl rfl (.inl rfl) hB2.and4 ?_
     refine wsT ?_
     refine ZaF rfl rfl rfl (by simp) ?_
     refine wsT ?_
     exact⟨⟨true,false,0,wst,L2,1,0,n2,m2⟩,by simp only;omega,⟨hB2,by simp only;omega,fun e=>by simp at e,fun _=>⟨rfl,rfl,rfl⟩⟩,⟨rfl,rfl,rfl,rfl,rfl,rfl,trivial⟩,trivial,rfl⟩
    ·refine wsT ?_
     refine Zaq rfl rfl (.inl rfl) hB2.and4 ?_
     refine wsT ?_
     refine Zbi rfl rfl rfl (by simp) ?_
     refine wsT ?_
     refine Zaq rfl rfl (.inl rfl) hB2.and3 ?_
     refine wsT ?_
     refine ZaF rfl rfl rfl (by simp) ?_
     refine wsT ?_
     refine Zbc rfl rfl (.inl rfl) (by decide) hB2.shr3 ?_
     refine wsT ?_
     refine ZaK rfl rfl rfl (by omega) ?_
     refine wsT ?_
     refine Zaq rfl rfl (.inr (.inr (.inr rfl))) (v:=.int .i32 (-11)) rfl ?_
     refine wsT ?_
     refine ZaC e196 (vs:=[ptr c.M,.int .i32 (-11)]) rfl (ZcF ok e196 hB2 hn2 true (fun e=>by simp at e) (by rfl)) ?_
     rintro v _ ⟨⟨z,rfl⟩,rfl⟩
     refine wsT ?_
     refine ZaC e152 (vs:=[]) rfl (ZaN ok e152 (by rfl)) ?_
     rintro v _ ⟨rfl,rfl⟩
     refine wsT ?_
     refine ZcD rfl (Zb1 ok Zdg rfl (.inl rfl) (.inl (by simp[Hp.tagged,cd]))) ?_
     rintro v _ ⟨rfl,rfl⟩
     refine wsT ?_
     refine ZaC e165 (vs:=[ptr c.M]) rfl (ZcE ok e165 rfl) ?_
     rintro v _ ⟨rfl,l,Hl,h1,h2,h3,h4,h5,rfl⟩
     refine wsT ?_
     exact⟨l,Hl,h1,h2,h3,h4,h5,rfl⟩
   ·refine wsT ?_
    refine Zb9 rfl (Zc2 (M:=m) ok t21 rfl (by rfl)) ?_
    rintro v _ (⟨L2,n2,m2,hB2,rfl,rfl,hm⟩ | ⟨n2,hB2,hn2,rfl,rfl⟩)
    ·refine wsT ?_
     refine Zaq rfl rfl (.inl rfl) hB2.and4 ?_
     refine wsT ?_
     refine ZaF rfl rfl rfl (by simp) ?_
     refine wsT ?_
     exact⟨⟨true,true,0,wst,L2,1,0,n2,m2⟩,by simp only;omega,⟨hB2,by simp only;omega,fun e=>by simp at e,fun _=>⟨rfl,rfl,rfl⟩⟩,⟨rfl,rfl,rfl,rfl,rfl,rfl,trivial⟩,trivial,rfl⟩
    ·refine wsT ?_
     refine Zaq rfl rfl (.inl rfl) hB2.and4 ?_
     refine wsT ?_
     refine Zbi rfl rfl rfl (by simp) ?_
     refine wsT ?_
     refine Zaq rfl rfl (.inl rfl) hB2.and3 ?_
     refine wsT ?_
     refine ZaF rfl rfl rfl (by simp) ?_
     refine wsT ?_
     refine Zbc rfl rfl (.inl rfl) (by decide) hB2.shr3 ?_
     refine wsT ?_
     refine ZaK rfl rfl rfl (by omega) ?_
     refine wsT ?_
     refine Zbc rfl rfl (.inl rfl) (by decide) hB2.shr3 ?_
     refine wsT ?_
     by_cases h1:n2=1
     ·refine Za1 rfl rfl rfl (by omega) ?_
      refine wsT ?_
      refine Zaq rfl rfl (.inr (.inr (.inr rfl))) (v:=.int .i32 (-11)) rfl ?_
      refine wsT ?_
      refine ZaC e196 (vs:=[ptr c.M,.int .i32 (-11)]) rfl (ZcF ok e196 hB2 hn2 true (fun e=>by simp at e) (by rfl)) ?_
      rintro v _ ⟨⟨z,rfl⟩,rfl⟩
      refine wsT ?_
      refine ZaC e152 (vs:=[]) rfl (ZaN ok e152 (by rfl)) ?_
      rintro v _ ⟨rfl,rfl⟩
      refine wsT ?_
      refine ZcD rfl (Zb1 ok Zdg rfl (.inl rfl) (.inl (by simp[Hp.tagged,cd]))) ?_
      rintro v _ ⟨rfl,rfl⟩
      refine wsT ?_
      refine ZaC e165 (vs:=[ptr c.M]) rfl (ZcE ok e165 rfl) ?_
      rintro v _ ⟨rfl,l,Hl,h1,h2,h3,h4,h5,rfl⟩
      refine wsT ?_
      exact⟨l,Hl,h1,h2,h3,h4,h5,rfl⟩
     ·refine ZaK rfl rfl rfl (by omega) ?_
      refine wsT ?_
      refine ZaC e196 (vs:=[ptr c.M,.int .i32 (-7)]) rfl (ZcF ok e196 hB2 hn2 false (fun _=>h1) (by rfl)) ?_
      rintro v _ ⟨⟨z,rfl⟩,rfl⟩
      refine wsT ?_
      refine ZaC e152 (vs:=[]) rfl (ZaN ok e152 (by rfl)) ?_
      rintro v _ ⟨rfl,rfl⟩
      refine wsT ?_
      refine ZcD rfl (Zb1 ok Zdg rfl (.inl rfl) (.inl (by simp[Hp.tagged,cd]))) ?_
      rintro v _ ⟨rfl,rfl⟩
      refine wsT ?_
      refine ZaC e165 (vs:=[ptr c.M]) rfl (ZcE ok e165 rfl) ?_
      rintro v _ ⟨rfl,l,Hl,h1,h2,h3,h4,h5,rfl⟩
      refine wsT ?_
      exact⟨l,Hl,h1,h2,h3,h4,h5,rfl⟩):G:=h
structure LkI where
 aw:Bool
 st:Bool
 it:Int
 ws:Int
 L:Nat
 W:Nat
 S:Nat
 n:Nat
 m:Nat
theorem ZcN {P:PQ}{α:Type}{a:α}{Q:α->Bool->Hp->Prop}{g:Bool}{H:Hp}(h:Q a g H):wpL P (pure a) Q g H:=h
theorem Zgg {P:PQ}{it:Int}{Q:Value->Bool->Hp->Prop}{g:Bool}{H:Hp}(hs:P.still H.gh=false)(h:∀ b:Bool,(b=true->it<4)->Q (.bool b) g H):wpL P (Extern.Sync.canSpin #[.int .i64 it]) Q g H:=by
 rw[Go.Conc.canSpin_eq]
 split
 ·exact h false (by simp)
 ·rename_i hn
  have hlt:it<4:=by omega
  rw[Zaa]
  have key:∀ (t:Nat),wpL P (pure (.bool (decide (t=1)))) Q g H:=fun t=>h _ fun _=>hlt
  show wpL P (.choose _ _) _ g H
  simp only[wpL]
  split
  ·exact key _
  ·exact⟨hs,fun t=>key _⟩
section
variable  {P:Prg}{d:Option Nat}{next:NSt->Hp->Prop}{σ:NSt}{H:Hp}{x y:Operand}
theorem ZiF {m n r:Int}(e1:σ.get x=some (.int .i32 m))(e2:σ.get y=some (.int .i32 n))(hr:IntKind.i32.wrap (m+n)=r)(h:next (σ.set d (.int .i32 r)) H):(NOp.bin .add x y).m P d next σ H:=
 Za3 e1 e2 rfl (by subst hr;exact h)
end
section
variable  {c:Cx}{i:Nat}
set_option maxHeartbeats 4000000
theorem ZkB (ok:c.Ok)(H:Hp)(hg:H.gh=[3]):LL.Zai (pw c i) 195 #[ptr c.M] H fun _ H'=>Got c i H H':=by
 refine IsN.m (P:=pw c i) c195 (args:=[ptr c.M]) rfl ?_
 unfold n195
 refine wsT ?_
 refine Zb9 rfl (ZeO (M:=0) ok t21 rfl (.inl hg)) ?_
 rintro v _ ⟨L0,W0,S0,n0,m0,hB0,rfl,rfl,_,_⟩
 refine wsT ?_
 refine ZgG (fun (j:LkI) H'=>Bits j.L j.W j.S j.n∧(0<=j.it∧j.it<=4)∧(j.aw=false->j.st=false∧H'=H.tagged [4,stv j.L j.W j.S j.n,j.m])∧(j.aw=true->j.W=1∧j.S=0∧H'=H.tagged [6,stv j.L j.W j.S j.n,j.m]))
  (fun j=>j.m * 8+(5-j.it).toNat) (fun j=>[(0,ptr c.M),(2,.int .i64 j.ws),(3,.bool j.st),(4,.bool j.aw),(5,.int .i64 j.it),(6,.int .i32 (stv j.L j.W j.S j.n:Nat))]) (fun _=>[]) ⟨false,false,0,0,L0,W0,S0,n0,m0⟩
  ⟨hB0,by simp,fun _=>⟨rfl,rfl⟩,fun e=>by simp at e⟩ ⟨rfl,rfl,rfl,rfl,rfl,rfl,trivial⟩ trivial ?_
 rintro⟨aw,st,it,wst,L,W,S,n,m⟩ H' ⟨hB,hit,hI1,hI2⟩
 simp only at hB hit hI1 hI2
 refine wsT ?_
 refine Zaq rfl rfl (.inl rfl) hB.and5 ?_
 refine wsT ?_
 have noSpin:True:=trivial
 cases aw with
 | false=>
  obtain⟨rfl,rfl⟩:=hI1 rfl
  by_cases hLS:L=1∧S=0
  ·obtain⟨rfl,rfl⟩:=hLS
   refine Za1 rfl rfl rfl (by simp) ?_
   refine wsT ?_
   refine Zfz e208 (vs:=[.int .i64 it]) rfl (Zgg rfl ?_)
   intro b hb
   cases b
   ·refine wsT ?_
    refine Zaq rfl rfl (.inl rfl) hB.and4 ?_
    refine wsT ?_
    refine Za1 rfl rfl rfl (by simp) ?_
    refine wsT ?_
    refine Zaq rfl rfl (.inr (.inl rfl)) hB.or1 ?_
    refine wsT ?_
    refine Zaq rfl rfl (.inl rfl) hB.and5 ?_
    refine wsT ?_
    refine Zbi rfl rfl rfl (by simp) ?_
    refine wsT ?_
    refine ZiF rfl rfl hB.add8 ?_
    refine wsT ?_
    refine ZaC e194 (vs:=[ptr c.M,.int .i32 (stv 1 W 0 n:Nat),.int .i32 (stv 1 W 0 (n+1):Nat)]) rfl (Zec (M:=m) ok e194 hB (by omega) (by rfl)) ?_
    rintro v _ (⟨rfl,rfl⟩ | ⟨rfl,rfl⟩)
    ·exact ZnG
    ·exact ZnE
   ·have hit4:=hb rfl
    refine wsT ?_
    refine Zaq rfl rfl (.inl rfl) hB.and2 ?_
    refine wsT ?_
    rcases le1 hB.W with rfl | rfl
    ·refine Za1 rfl rfl rfl (by simp) ?_
     refine wsT ?_
     refine Zbc rfl rfl (.inl rfl) (by decide) hB.shr3 ?_
     refine wsT ?_
     by_cases hn:n=0
     ·refine ZaF rfl rfl rfl (by simpa using hn) ?_
      exact qNLkD4
     ·refine Zbi rfl rfl rfl (by simpa using hn) ?_
      refine wsT ?_
      refine Zaq rfl rfl (.inr (.inl rfl)) hB.or2 ?_
      refine wsT ?_
      refine ZaC e194 (vs:=[ptr c.M,.int .i32 (stv 1 0 0 n:Nat),.int .i32 (stv 1 1 0 n:Nat)]) rfl (Zj8 (M:=m) ok e194 hB (by rfl)) ?_
      rintro v _ (⟨rfl,rfl⟩ | ⟨rfl,rfl⟩)
      ·refine wsT ?_
       refine wsT ?_
       refine Zfz e209 (vs:=[]) rfl ?_
       refine(ZcN ?_)
       refine wsT ?_
       refine Za3 rfl rfl rfl ⟨by unfold InR;simp only;omega,?_⟩
       refine wsT ?_
       refine Zb9 rfl (ZeN (M:=m) ok t21 rfl (.inl rfl)) ?_
       rintro v _ ⟨L2,n2,m2,hB2,rfl,rfl,hm,_⟩
       have hm:=hm rfl
       refine wsT ?_
       exact⟨⟨true,false,(it+1),wst,L2,1,0,n2,m2⟩,by simp only;omega,⟨hB2,by simp only;omega,fun e=>by simp at e,fun _=>⟨rfl,rfl,rfl⟩⟩,⟨rfl,rfl,rfl,rfl,rfl,rfl,trivial⟩,trivial,rfl⟩
      ·refine wsT ?_
       refine wsT ?_
       refine Zfz e209 (vs:=[]) rfl ?_
       refine(ZcN ?_)
       refine wsT ?_
       refine Za3 rfl rfl rfl ⟨by unfold InR;simp only;omega,?_⟩
       refine wsT ?_
       refine Zb9 rfl (ZeO (M:=m) ok t21 rfl (.inr (.inl rfl))) ?_
       rintro v _ ⟨L2,W2,S2,n2,m2,hB2,rfl,rfl,hm,_⟩
       have hm:=hm rfl
       refine wsT ?_
       exact⟨⟨false,false,(it+1),wst,L2,W2,S2,n2,m2⟩,by simp only;omega,⟨hB2,by simp only;omega,fun _=>⟨rfl,rfl⟩,fun e=>by simp at e⟩,⟨rfl,rfl,rfl,rfl,rfl,rfl,trivial⟩,trivial,rfl⟩
    ·refine ZaK rfl rfl rfl (by simp) ?_
     exact qNLkD4
  ·refine ZaK rfl rfl rfl (by omega) ?_
   refine wsT ?_
   rcases le1 hB.S with rfl | rfl
   ·have hL0:L=0:=by have:=hB.L;omega
    subst hL0
    refine Zaq rfl rfl (.inl rfl) hB.and4 ?_
    refine wsT ?_
    refine Za1 rfl rfl rfl (by simp) ?_
    refine wsT ?_
    refine Zaq rfl rfl (.inr (.inl rfl)) hB.or1 ?_
    refine wsT ?_
    refine Zaq rfl rfl (.inl rfl) hB.and5 ?_
    refine wsT ?_
    refine ZaF rfl rfl rfl (by simp) ?_
    refine wsT ?_
    refine ZaC e194 (vs:=[ptr c.M,.int .i32 (stv 0 W 0 n:Nat),.int .i32 (stv 1 W 0 n:Nat)]) rfl (Zi5 (M:=m) ok e194 hB (by rfl)) ?_
    rintro v _ (⟨rfl,rfl⟩ | ⟨rfl,rfl⟩)
    ·exact ZnD
    ·exact ZnE
   ·refine Zaq rfl rfl (.inl rfl) hB.and4 ?_
    refine wsT ?_
    refine ZaK rfl rfl rfl (by simp) ?_
    refine wsT ?_
    refine Zaq rfl rfl (.inl rfl) hB.and5 ?_
    refine wsT ?_
    refine Zbi rfl rfl rfl (by omega) ?_
    refine wsT ?_
    refine ZiF rfl rfl hB.add8 ?_
    refine wsT ?_
    refine ZaC e194 (vs:=[ptr c.M,.int .i32 (stv L W 1 n:Nat),.int .i32 (stv L W 1 (n+1):Nat)]) rfl (Zec (M:=m) ok e194 hB (by omega) (by rfl)) ?_
    rintro v _ (⟨rfl,rfl⟩ | ⟨rfl,rfl⟩)
    ·exact ZnG
    ·exact ZnE
 | true=>
  obtain⟨rfl,rfl,rfl⟩:=hI2 rfl
  rcases le1 hB.L with rfl | rfl
  ·refine ZaK rfl rfl rfl (by simp) ?_
   refine wsT ?_
   refine Zaq rfl rfl (.inl rfl) hB.and4 ?_
   refine wsT ?_
   refine Za1 rfl rfl rfl (by simp) ?_
   refine wsT ?_
   refine Zaq rfl rfl (.inr (.inl rfl)) hB.or1 ?_
   refine wsT ?_
   refine Zaq rfl rfl (.inl rfl) hB.and5 ?_
   refine wsT ?_
   have hB1:Bits 1 1 0 n:=⟨by omega,by omega,by omega,hB.n⟩
   refine ZaF rfl rfl rfl (by simp) ?_
   cases st
   ·refine wsT ?_
    refine Zaq rfl rfl (.inl rfl) hB1.and2 ?_
    refine wsT ?_
    refine ZaK rfl rfl rfl (by simp) ?_
    refine wsT ?_
    refine Zaq rfl rfl (.inr (.inr (.inl rfl))) hB1.not2 ?_
    refine wsT ?_
    refine ZaC e194 (vs:=[ptr c.M,.int .i32 (stv 0 1 0 n:Nat),.int .i32 (stv 1 0 0 n:Nat)]) rfl (ZeQ (M:=m) ok e194 hB (by rfl)) ?_
    rintro v _ (⟨rfl,rfl⟩ | ⟨rfl,rfl⟩)
    ·exact ZnD
    ·exact qNLkD5
   ·refine wsT ?_
    refine Zaq rfl rfl (.inl rfl) hB.and1 ?_
    refine wsT ?_
    refine ZaF rfl rfl rfl (by simp) ?_
    refine wsT ?_
    refine Zaq rfl rfl (.inl rfl) hB1.and2 ?_
    refine wsT ?_
    refine ZaK rfl rfl rfl (by simp) ?_
    refine wsT ?_
    refine Zaq rfl rfl (.inr (.inr (.inl rfl))) hB1.not2 ?_
    refine wsT ?_
    refine ZaC e194 (vs:=[ptr c.M,.int .i32 (stv 0 1 0 n:Nat),.int .i32 (stv 1 0 0 n:Nat)]) rfl (ZeQ (M:=m) ok e194 hB (by rfl)) ?_
    rintro v _ (⟨rfl,rfl⟩ | ⟨rfl,rfl⟩)
    ·exact ZnD
    ·exact qNLkD6
  ·refine Za1 rfl rfl rfl (by simp) ?_
   refine wsT ?_
   refine Zfz e208 (vs:=[.int .i64 it]) rfl (Zgg rfl ?_)
   intro b hb
   cases b
   ·refine wsT ?_
    refine Zaq rfl rfl (.inl rfl) hB.and4 ?_
    refine wsT ?_
    refine Za1 rfl rfl rfl (by simp) ?_
    refine wsT ?_
    refine Zaq rfl rfl (.inr (.inl rfl)) hB.or1 ?_
    refine wsT ?_
    refine Zaq rfl rfl (.inl rfl) hB.and5 ?_
    refine wsT ?_
    have hB1:Bits 1 1 0 n:=⟨by omega,by omega,by omega,hB.n⟩
    refine Zbi rfl rfl rfl (by simp) ?_
    refine wsT ?_
    refine ZiF rfl rfl hB.add8 ?_
    have hB':Zdk 1 1 0 (n+1):=⟨by omega,by omega,by omega,by have:=hB.n;omega⟩
    have hB4:Zdk 1 1 1 (n+1):=⟨by omega,by omega,by omega,by have:=hB.n;omega⟩
    cases st
    ·refine wsT ?_
     refine Zaq rfl rfl (.inl rfl) hB'.and2 ?_
     refine wsT ?_
     refine ZaK rfl rfl rfl (by simp) ?_
     refine wsT ?_
     refine Zaq rfl rfl (.inr (.inr (.inl rfl))) hB'.not2 ?_
     refine wsT ?_
     refine ZaC e194 (vs:=[ptr c.M,.int .i32 (stv 1 1 0 n:Nat),.int .i32 (stv 1 0 0 (n+1):Nat)]) rfl (Zeb (M:=m) ok e194 false hB (by rfl)) ?_
     rintro v _ (⟨rfl,rfl⟩ | ⟨rfl,rfl⟩)
     ·exact ZnG
     ·exact qNLkD5
    ·refine wsT ?_
     refine Zaq rfl rfl (.inl rfl) hB.and1 ?_
     refine wsT ?_
     refine Zbi rfl rfl rfl (by simp) ?_
     refine wsT ?_
     refine Zaq rfl rfl (.inr (.inl rfl)) hB'.or4 ?_
     refine wsT ?_
     refine Zaq rfl rfl (.inl rfl) hB4.and2 ?_
     refine wsT ?_
     refine ZaK rfl rfl rfl (by simp) ?_
     refine wsT ?_
     refine Zaq rfl rfl (.inr (.inr (.inl rfl))) hB4.not2 ?_
     refine wsT ?_
     refine ZaC e194 (vs:=[ptr c.M,.int .i32 (stv 1 1 0 n:Nat),.int .i32 (stv 1 0 1 (n+1):Nat)]) rfl (Zeb (M:=m) ok e194 true hB (by rfl)) ?_
     rintro v _ (⟨rfl,rfl⟩ | ⟨rfl,rfl⟩)
     ·refine wsT ?_
      refine wsT ?_
      refine Zaq rfl rfl (.inl rfl) hB.and5 ?_
      refine wsT ?_
      refine ZaK rfl rfl rfl (by omega) ?_
      refine wsT ?_
      by_cases hw0:wst=0
      ·refine ZaF rfl rfl rfl hw0 ?_
       refine wsT ?_
       refine Za1 rfl rfl rfl hw0 ?_
       refine wsT ?_
       refine ZaC e211 (vs:=[]) rfl (Zgc ok e211 nr211 (by simp[Hp.tagged,cd])) ?_
       rintro v _ ⟨⟨z1,rfl⟩,rfl⟩
       refine wsT ?_
       refine ZaC e212 (vs:=[.pointer (some ((mkA c.M).add 1)),_,.int .i64 2]) rfl (Zi4 ok e212 rfl (by rfl)) ?_
       rintro v _ ⟨rfl,rfl⟩
       refine wsT ?_
       refine Zb9 rfl (Zc2 (M:=m) ok t21 rfl (by rfl)) ?_
       rintro v _ (⟨L2,n2,m2,hB2,rfl,rfl,hm⟩ | ⟨n2,hB2,hn2,rfl,rfl⟩)
       ·refine wsT ?_
        refine Zaq rfl rfl (.inl rfl) hB2.and4 ?_
        refine wsT ?_
        refine ZaF rfl rfl rfl (by simp) ?_
        refine wsT ?_
        exact⟨⟨true,true,0,z1,L2,1,0,n2,m2⟩,by simp only;omega,⟨hB2,by simp only;omega,fun e=>by simp at e,fun _=>⟨rfl,rfl,rfl⟩⟩,⟨rfl,rfl,rfl,rfl,rfl,rfl,trivial⟩,trivial,rfl⟩
       ·exact qNLkD2
      ·refine Zbi rfl rfl rfl hw0 ?_
       refine wsT ?_
       refine ZaK rfl rfl rfl hw0 ?_
       refine wsT ?_
       refine ZaC e212 (vs:=[.pointer (some ((mkA c.M).add 1)),_,.int .i64 2]) rfl (Zi4 ok e212 rfl (by rfl)) ?_
       rintro v _ ⟨rfl,rfl⟩
       refine wsT ?_
       refine Zb9 rfl (Zc2 (M:=m) ok t21 rfl (by rfl)) ?_
       rintro v _ (⟨L2,n2,m2,hB2,rfl,rfl,hm⟩ | ⟨n2,hB2,hn2,rfl,rfl⟩)
       ·refine wsT ?_
        refine Zaq rfl rfl (.inl rfl) hB2.and4 ?_
        refine wsT ?_
        refine ZaF rfl rfl rfl (by simp) ?_
        refine wsT ?_
        exact⟨⟨true,true,0,wst,L2,1,0,n2,m2⟩,by simp only;omega,⟨hB2,by simp only;omega,fun e=>by simp at e,fun _=>⟨rfl,rfl,rfl⟩⟩,⟨rfl,rfl,rfl,rfl,rfl,rfl,trivial⟩,trivial,rfl⟩
       ·exact qNLkD2
     ·exact qNLkD6
   ·have hit4:=hb rfl
    refine wsT ?_
    refine wsT ?_
    refine Zfz e209 (vs:=[]) rfl ?_
    refine(ZcN ?_)
    refine wsT ?_
    refine Za3 rfl rfl rfl ⟨by unfold InR;simp only;omega,?_⟩
    refine wsT ?_
    refine Zb9 rfl (ZeN (M:=m) ok t21 rfl (.inr ⟨_,rfl⟩)) ?_
    rintro v _ ⟨L2,n2,m2,hB2,rfl,rfl,_,hm⟩
    have hm:=hm ⟨_,rfl⟩
    refine wsT ?_
    exact⟨⟨true,st,(it+1),wst,L2,1,0,n2,m2⟩,by simp only;omega,⟨hB2,by simp only;omega,fun e=>by simp at e,fun _=>⟨rfl,rfl,rfl⟩⟩,⟨rfl,rfl,rfl,rfl,rfl,rfl,trivial⟩,trivial,rfl⟩
end
end Go.Proofs
end
section
open Go Go.LL
namespace Go.LL
section
variable  {P:Prg}{d:Option Nat}{next:NSt->Hp->Prop}{σ:NSt}{H:Hp}{x y:Operand}
theorem Zch {t t2 ty:TypeId}{k k2:IntKind}{n r:Int}(h1:(P.underlying t).isSome=true)(h2:P.underlying t2=some (.int k2))(e:σ.get x=some (.int k n))(hr:k2.wrap n=r)(h:next (σ.set d (.int k2 r)) H):(NOp.raw (.convert t t2 x) ty).m P d next σ H:=by
 obtain⟨dt,hd⟩:=Option.isSome_iff_exists.mp h1
 refine⟨by simp[Op.operands,e],.inl ?_⟩
 have:execOp (fun x=>(σ.get x).getD undef) (bare (.convert t t2 x) ty)=(do pure (.value (<-convert t t2 (.int k n))):Sem Next):=by simp[execOp,bare,e]
 rw[this,Zaa]
 simp only[convert,Zaa,Zad hd,Zad h2,Conv.intToInt]
 subst hr
 exact .inr h
theorem Zf1 {f:FuncId}{xs:Array Operand}{ts:Array TypeId}{ty:TypeId}{vs:List Value}(ha:σ.gets xs.toList=some vs)(h:next ({ σ with defs:={ target:=.fn (.func f) #[],args:=vs.toArray } :: σ.defs }.set d undef) H) :
  (NOp.raw (.defer { callee:=.value (.func f),args:=xs,argTypes:=ts }) ty).m P d next σ H:=by
 obtain⟨h1,h2⟩:=Zci ha
 refine⟨Zfp h2,.inl ?_⟩
 have:execOp (fun x=>(σ.get x).getD undef) (bare (.defer { callee:=.value (.func f),args:=xs,argTypes:=ts }) ty)=pure (.defer { target:=.fn (.func f) #[],args:=vs.toArray }):=by
  obtain⟨xs⟩:=xs
  have e:(σ.get (.func f)).getD undef=.func (.func f) #[] #[]:=rfl
  simp[execOp,bare,resolve,Deferred.ofValue,e,List.map_toArray,h1]
 rw[this]
 exact .inr ⟨rfl,rfl,h⟩
theorem ZiJ {rs:List NRes}{Post:Value->Hp->Prop}{vs:List Value}(hc:rs.any NRes.cell=false)(hv:Zin σ rs=some vs)(h:NUnw P σ.defs (Post (Zbt vs)) H):ZeU P rs Post σ H:=by
 unfold ZeU ZkW
 exact NUnw.imp (fun H h=>⟨fun e=>by rw[hc]at e;simp at e,vs,ZfX hv,h⟩) h
theorem ZnY {f:FuncId}{vs:Array Value}{K:Hp->Prop}{ds:List Deferred}(hv:Vals P.toProgram (callFunc f vs))(h:ShOp P (callFunc f vs) false false H fun _ H'=>NUnw P ds K H'):NUnw P ({ target:=.fn (.func f) #[],args:=vs } :: ds) K H:=by
 refine⟨rfl,.inr ?_⟩
 have:invoke (.fn (.func f) #[]) vs=callFunc f vs:=by simp[invoke]
 rw[this]
 exact⟨hv,h⟩
theorem Zkw {f:FuncId}{fn:Func}{vs:Array Value}{K:Hp->Prop}{ds:List Deferred}(hf:P.funcs[f]? = some fn)(hb:fn.body.isSome=true)(hn:(fn.name == "runtime.NumGoroutine")=false)(h:ZbQ P .deferred f vs H fun _ H'=>NUnw P ds K H') :
  NUnw P ({ target:=.fn (.func f) #[],args:=vs } :: ds) K H:=by
 refine⟨rfl,.inl ?_⟩
 have hbn:fn.body.isNone=false:=by simpa using hb
 have:invoke (.fn (.func f) #[]) vs=callFunc f vs:=by simp[invoke]
 rw[this]
 simp only[callFunc,Zaa,ZaJ,hf,hn,hbn,Bool.false_eq_true,if_false]
 exact h
end
theorem and_high (v wt m:Nat)(h1:wt<4294967296)(hm:m<4294967296):wgv v wt &&& m=wt &&& m:=by
 refine Nat.eq_of_testBit_eq fun i=>?_
 rw[Nat.testBit_and,Nat.testBit_and,show wgv v wt=2 ^ 32 * v+wt by unfold wgv;omega,Nat.testBit_two_pow_mul_add _ (show wt<2 ^ 32 from h1)]
 by_cases h:i<32
 ·simp[h]
 ·have:m.testBit i=false:=Nat.testBit_lt_two_pow (Nat.lt_of_lt_of_le hm (by rw[show (4294967296:Nat)=2 ^ 32 from rfl];exact Nat.pow_le_pow_right (by decide) (by omega)))
  simp[this]
theorem ZgF (x:Nat)(hx:x<18446744073709551616):(BitVec.ofInt 64 (x:Nat)).toNat=x:=by
 simp[BitVec.toNat_ofInt];omega
theorem wg_and {v wt m:Nat}(hv:v<=100000002)(h1:wt<=1)(hm:m<4294967296):bitV .and .u64 (wgv v wt:Nat) (m:Nat)=.int .u64 ((wt &&& m:Nat):Int):=by
 have hx':wgv v wt<18446744073709551616:=by unfold wgv;omega
 have hk':m<18446744073709551616:=by omega
 have hle:wt &&& m<=wt:=Nat.and_le_left
 show Value.int .u64 (IntKind.u64.wrap ((BitVec.ofInt 64 (wgv v wt:Nat) &&& BitVec.ofInt 64 (m:Nat)).toNat:Nat))=_
 rw[BitVec.toNat_and,ZgF _ hx',ZgF _ hk',and_high v wt m (by omega) hm,Zke (by omega) (by omega)]
theorem ZfS {v wt:Nat}(hv:v<=100000002)(h1:wt<=1):bitV .and .u64 (wgv v wt:Nat) 2147483648=.int .u64 (0:Nat):=by
 refine(wg_and (m:=2147483648) hv h1 (by decide)).trans ?_
 rcases le1 h1 with rfl | rfl<;>rfl
theorem wg_wt {v wt:Nat}(hv:v<=100000002)(h1:wt<=1):bitV .and .u64 (wgv v wt:Nat) 2147483647=.int .u64 (wt:Nat):=by
 refine(wg_and (m:=2147483647) hv h1 (by decide)).trans ?_
 rcases le1 h1 with rfl | rfl<;>rfl
theorem wg_v {v wt:Nat}(h1:wt<=1):bitV .shr .u64 (wgv v wt:Nat) 32=.int .u64 (v:Nat):=by
 show Value.int .u64 (Int.fdiv (wgv v wt:Nat) (2 ^ min (Int.toNat (32:Int)) 64))=_
 have:(2:Int) ^ min (Int.toNat (32:Int)) 64=4294967296:=rfl
 rw[this,Int.fdiv_eq_ediv_of_nonneg _ (by omega)]
 congr 1
 unfold wgv;omega
theorem Zh7 {n:Nat}(h:n<=100000002):IntKind.i32.wrap (n:Nat)=(n:Nat):=Zee (by omega) (by omega)
theorem Zh6 {n:Nat}(h:n<=1):IntKind.u32.wrap (n:Nat)=(n:Nat):=by rcases le1 h with rfl | rfl<;>rfl
end Go.LL
namespace Go.Proofs
theorem lock_ok {c:Cx}{i:Nat}(ok:c.Ok)(hneed:c.need i=true){H:Hp}(hg:H.gh=[1]):LL.Zai (pw c i) 113 #[ptr c.M] H fun _ H'=>Got c i H H':=by
 refine IsN.m (P:=pw c i) c113 (args:=[ptr c.M]) rfl ?_
 unfold n113
 refine wsT ?_
 refine Zab (vs:=[ptr c.M]) rfl (lock163 ok hneed (fun H hg=>ZkB ok H hg) hg) ?_
 rintro v H' h
 refine wsT ?_
 exact h
theorem u3:(Tryz.prog.underlying 3).isSome=true:=by kernel_rfl
theorem u144k:Tryz.prog.underlying 144=some (.int .u64):=by kernel_rfl
theorem ZlZ:(Tryz.prog.underlying 144).isSome=true:=by kernel_rfl
theorem u21:Tryz.prog.underlying 21=some (.int .i32):=by kernel_rfl
theorem u137:Tryz.prog.underlying 137=some (.int .u32):=by kernel_rfl
section
variable  {P:Prg}{H:Hp}{Post:Value->Hp->Prop}{b:Nat}
theorem w157 (hP:P.toProgram=Tryz.prog){v:Value}(h:ShOp P (callFunc 191 #[ptr b,v]) true false H Post):LL.Zai P 157 #[ptr b,v] H Post:=by
 refine IsN.m (P:=P) (by rw[hP];exact c157) (args:=[ptr b,v]) rfl ?_
 unfold n157
 refine wsT ?_
 refine ZaC (hP ▸ e191) (vs:=[ptr b,v]) rfl h ?_
 intro v H' hv
 refine wsT ?_
 exact hv
theorem w159 (hP:P.toProgram=Tryz.prog)(h:ShOp P (callFunc 192 #[ptr b]) true false H Post):LL.Zai P 159 #[ptr b] H Post:=by
 refine IsN.m (P:=P) (by rw[hP];exact c159) (args:=[ptr b]) rfl ?_
 unfold n159
 refine wsT ?_
 refine ZaC (hP ▸ e192) (vs:=[ptr b]) rfl h ?_
 intro v H' hv
 refine wsT ?_
 exact hv
theorem w160 (hP:P.toProgram=Tryz.prog){v:Value}(h:ShOp P (callFunc 193 #[ptr b,v]) true false H fun _ H'=>Post ZaI H'):LL.Zai P 160 #[ptr b,v] H Post:=by
 refine IsN.m (P:=P) (by rw[hP];exact c160) (args:=[ptr b,v]) rfl ?_
 unfold n160
 refine wsT ?_
 refine ZaC (hP ▸ e193) (vs:=[ptr b,v]) rfl h ?_
 intro v H' hv
 refine wsT ?_
 exact hv
theorem w167 (hP:P.toProgram=Tryz.prog){u v:Value}(h:ShOp P (callFunc 198 #[ptr b,u,v]) true false H Post):LL.Zai P 167 #[ptr b,u,v] H Post:=by
 refine IsN.m (P:=P) (by rw[hP];exact c167) (args:=[ptr b,u,v]) rfl ?_
 unfold n167
 refine wsT ?_
 refine ZaC (hP ▸ e198) (vs:=[ptr b,u,v]) rfl h ?_
 intro v H' hv
 refine wsT ?_
 exact hv
end
theorem Zm3:Vals Tryz.prog (callFunc 152 #[]):=fun w=>⟨_,_,_,Zdu (by simp) e152 #[] w⟩
end Go.Proofs
end
