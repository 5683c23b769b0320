import Derived.Test.YthmnpenamnoniaaGreatDoorP37
set_option linter.all false
section
open Go Go.LL
namespace Go.Proofs
theorem qLkD7 {G:Prop} (h:G:=by
  refine wsT ?_
  refine Zam rfl rfl (.inl rfl) hB.and5 ?_
  refine wsT ?_
  refine ZaV rfl rfl rfl (by simp) ?_
  exact qLkD1):G:=h
theorem qLkD6 {G:Prop} (h:G:=by
  refine wsT ?_
  refine ZbV rfl (Zej (M:=m) ok t21 rfl (.inl rfl)) ?_
  rintro v _ ⟨L2,n2,m2,hB2,rfl,rfl,hm,_⟩
  have hm:=hm rfl
  refine wsT ?_
  exact⟨⟨true,true,it,wst,L2,1,0,n2,m2⟩,by simp only;omega,⟨hB2,by simp only;omega,fun e=>by simp at e,fun _=>⟨rfl,rfl,rfl⟩⟩,⟨rfl,rfl,rfl,rfl,rfl,rfl,trivial⟩,trivial,rfl⟩):G:=h
theorem qLkD5 {G:Prop} (h:G:=by
  refine wsT ?_
  refine ZbV rfl (Zej (M:=m) ok t21 rfl (.inl rfl)) ?_
  rintro v _ ⟨L2,n2,m2,hB2,rfl,rfl,hm,_⟩
  have hm:=hm rfl
  refine wsT ?_
  exact⟨⟨true,false,it,wst,L2,1,0,n2,m2⟩,by simp only;omega,⟨hB2,by simp only;omega,fun e=>by simp at e,fun _=>⟨rfl,rfl,rfl⟩⟩,⟨rfl,rfl,rfl,rfl,rfl,rfl,trivial⟩,trivial,rfl⟩):G:=h
theorem qLkD4 {G:Prop} (h:G:=by
  refine wsT ?_
  refine Ze0 e209 (vs:=[]) rfl ?_
  refine(Zcu ?_)
  refine wsT ?_
  refine ZaY rfl rfl rfl ⟨by unfold InR;simp only;omega,?_⟩
  refine wsT ?_
  refine ZbV rfl (Zek (M:=m) ok t21 rfl (.inr (.inr ⟨_,rfl⟩))) ?_
  rintro v _ ⟨L2,W2,S2,n2,m2,hB2,rfl,rfl,_,hm⟩
  have hm:=hm ⟨_,rfl⟩
  refine wsT ?_
  exact⟨⟨false,false,(it+1),wst,L2,W2,S2,n2,m2⟩,by simp only;omega,⟨hB2,by simp only;omega,fun _=>⟨rfl,rfl⟩,fun e=>by simp at e⟩,⟨rfl,rfl,rfl,rfl,rfl,rfl,trivial⟩,trivial,rfl⟩):G:=h
theorem qLkD3 {G:Prop} (h:G:=by
  refine wsT ?_
  refine ZbV rfl (Zek (M:=m) ok t21 rfl (.inr (.inl rfl))) ?_
  rintro v _ ⟨L2,W2,S2,n2,m2,hB2,rfl,rfl,hm,_⟩
  have hm:=hm rfl
  refine wsT ?_
  exact⟨⟨false,false,it,wst,L2,W2,S2,n2,m2⟩,by simp only;omega,⟨hB2,by simp only;omega,fun _=>⟨rfl,rfl⟩,fun e=>by simp at e⟩,⟨rfl,rfl,rfl,rfl,rfl,rfl,trivial⟩,trivial,rfl⟩):G:=h
theorem qLkD2 {G:Prop} (h:G:=by
  refine wsT ?_
  refine Zam rfl rfl (.inl rfl) hB2.and4 ?_
  refine wsT ?_
  refine Za8 rfl rfl rfl (by simp) ?_
  refine wsT ?_
  refine Zam rfl rfl (.inl rfl) hB2.and3 ?_
  refine wsT ?_
  refine ZaA rfl rfl rfl (by simp) ?_
  refine wsT ?_
  refine Za5 rfl rfl (.inl rfl) (by decide) hB2.shr3 ?_
  refine wsT ?_
  refine ZaD rfl rfl rfl (by omega) ?_
  refine wsT ?_
  refine Za5 rfl rfl (.inl rfl) (by decide) hB2.shr3 ?_
  refine wsT ?_
  by_cases h1:n2=1
  ·refine ZaV rfl rfl rfl (by omega) ?_
   refine wsT ?_
   refine Zam rfl rfl (.inr (.inr (.inr rfl))) (v:=.int .i32 (-11)) rfl ?_
   refine wsT ?_
   refine Zax e196 (vs:=[ptr c.M,.int .i32 (-11)]) rfl (Zcn ok e196 hB2 hn2 true (fun e=>by simp at e) (by rfl)) ?_
   rintro v _ ⟨⟨z,rfl⟩,rfl⟩
   exact qLkD1
  ·refine ZaD rfl rfl rfl (by omega) ?_
   refine wsT ?_
   refine Zax e196 (vs:=[ptr c.M,.int .i32 (-7)]) rfl (Zcn ok e196 hB2 hn2 false (fun _=>h1) (by rfl)) ?_
   rintro v _ ⟨⟨z,rfl⟩,rfl⟩
   exact qLkD1):G:=h
theorem qLkD1 {G:Prop} (h:G:=by
  refine wsT ?_
  refine Zax e152 (vs:=[]) rfl (ZaG ok e152 (by rfl)) ?_
  rintro v _ ⟨rfl,rfl⟩
  refine wsT ?_
  refine Zcj rfl (ZbO ok ZcX rfl (.inl rfl) (.inl (by simp[Hp.tagged,cd]))) ?_
  rintro v _ ⟨rfl,rfl⟩
  refine wsT ?_
  refine Zax e165 (vs:=[ptr c.M]) rfl (Zcm ok e165 rfl) ?_
  rintro v _ ⟨rfl,l,Hl,h1,h2,h3,h4,h5,rfl⟩
  refine wsT ?_
  exact⟨l,Hl,h1,h2,h3,h4,h5,rfl⟩):G:=h
theorem qLkD0 {G:Prop} (h:G:=by
  refine wsT ?_
  refine wsT ?_
  refine Zam rfl rfl (.inl rfl) hB.and5 ?_
  refine wsT ?_
  refine ZaD rfl rfl rfl (by omega) ?_
  refine wsT ?_
  by_cases hw0:wst=0
  ·refine ZaA rfl rfl rfl hw0 ?_
   refine wsT ?_
   refine ZaV rfl rfl rfl hw0 ?_
   refine wsT ?_
   refine Zax e211 (vs:=[]) rfl (Zfx ok e211 nr211 (by simp[Hp.tagged,cd])) ?_
   rintro v _ ⟨⟨z1,rfl⟩,rfl⟩
   refine wsT ?_
   refine Zax e212 (vs:=[.pointer (some ((mkA c.M).add 1)),_,.int .i64 2]) rfl (Zh2 ok e212 rfl (by rfl)) ?_
   rintro v _ ⟨rfl,rfl⟩
   refine wsT ?_
   refine Zax e211 (vs:=[]) rfl (Zfx ok e211 nr211 (by simp[Hp.tagged,cd])) ?_
   rintro v _ ⟨⟨z2,rfl⟩,rfl⟩
   refine wsT ?_
   refine Zam rfl rfl (.inr (.inr (.inr rfl))) rfl ?_
   refine wsT ?_
   refine ZaY rfl rfl rfl ?_
   intro b3 _
   refine wsT ?_
   cases b3
   ·refine wsT ?_
    refine ZbV rfl (ZcL (M:=m) ok t21 rfl (by rfl)) ?_
    rintro v _ (⟨L2,n2,m2,hB2,rfl,rfl,hm⟩ | ⟨n2,hB2,hn2,rfl,rfl⟩)
    ·refine wsT ?_
     refine Zam rfl rfl (.inl rfl) hB2.and4 ?_
     refine wsT ?_
     refine ZaA rfl rfl rfl (by simp) ?_
     refine wsT ?_
     exact⟨⟨true,false,0,z1,L2,1,0,n2,m2⟩,by simp only;omega,⟨hB2,by simp only;omega,fun e=>by simp at e,fun _=>⟨rfl,rfl,rfl⟩⟩,⟨rfl,rfl,rfl,rfl,rfl,rfl,trivial⟩,trivial,rfl⟩
    ·refine wsT ?_
     refine Zam rfl rfl (.inl rfl) hB2.and4 ?_
     refine wsT ?_
     refine Za8 rfl rfl rfl (by simp) ?_
     refine wsT ?_
     refine Zam rfl rfl (.inl rfl) hB2.and3 ?_
     refine wsT ?_
     refine ZaA rfl rfl rfl (by simp) ?_
     refine wsT ?_
     refine Za5 rfl rfl (.inl rfl) (by decide) hB2.shr3 ?_
     refine wsT ?_
     refine ZaD rfl rfl rfl (by omega) ?_
     refine wsT ?_
     refine Zam rfl rfl (.inr (.inr (.inr rfl))) (v:=.int .i32 (-11)) rfl ?_
     refine wsT ?_
     refine Zax e196 (vs:=[ptr c.M,.int .i32 (-11)]) rfl (Zcn ok e196 hB2 hn2 true (fun e=>by simp at e) (by rfl)) ?_
     rintro v _ ⟨⟨z,rfl⟩,rfl⟩
     refine wsT ?_
     refine Zax e152 (vs:=[]) rfl (ZaG ok e152 (by rfl)) ?_
     rintro v _ ⟨rfl,rfl⟩
     refine wsT ?_
     refine Zcj rfl (ZbO ok ZcX rfl (.inl rfl) (.inl (by simp[Hp.tagged,cd]))) ?_
     rintro v _ ⟨rfl,rfl⟩
     refine wsT ?_
     refine Zax e165 (vs:=[ptr c.M]) rfl (Zcm ok e165 rfl) ?_
     rintro v _ ⟨rfl,l,Hl,h1,h2,h3,h4,h5,rfl⟩
     refine wsT ?_
     exact⟨l,Hl,h1,h2,h3,h4,h5,rfl⟩
   ·refine wsT ?_
    refine ZbV rfl (ZcL (M:=m) ok t21 rfl (by rfl)) ?_
    rintro v _ (⟨L2,n2,m2,hB2,rfl,rfl,hm⟩ | ⟨n2,hB2,hn2,rfl,rfl⟩)
    ·refine wsT ?_
     refine Zam rfl rfl (.inl rfl) hB2.and4 ?_
     refine wsT ?_
     refine ZaA rfl rfl rfl (by simp) ?_
     refine wsT ?_
     exact⟨⟨true,true,0,z1,L2,1,0,n2,m2⟩,by simp only;omega,⟨hB2,by simp only;omega,fun e=>by simp at e,fun _=>⟨rfl,rfl,rfl⟩⟩,⟨rfl,rfl,rfl,rfl,rfl,rfl,trivial⟩,trivial,rfl⟩
    ·refine wsT ?_
     refine Zam rfl rfl (.inl rfl) hB2.and4 ?_
     refine wsT ?_
     refine Za8 rfl rfl rfl (by simp) ?_
     refine wsT ?_
     refine Zam rfl rfl (.inl rfl) hB2.and3 ?_
     refine wsT ?_
     refine ZaA rfl rfl rfl (by simp) ?_
     refine wsT ?_
     refine Za5 rfl rfl (.inl rfl) (by decide) hB2.shr3 ?_
     refine wsT ?_
     refine ZaD rfl rfl rfl (by omega) ?_
     refine wsT ?_
     refine Za5 rfl rfl (.inl rfl) (by decide) hB2.shr3 ?_
     refine wsT ?_
     by_cases h1:n2=1
     ·refine ZaV rfl rfl rfl (by omega) ?_
      refine wsT ?_
      refine Zam rfl rfl (.inr (.inr (.inr rfl))) (v:=.int .i32 (-11)) rfl ?_
      refine wsT ?_
      refine Zax e196 (vs:=[ptr c.M,.int .i32 (-11)]) rfl (Zcn ok e196 hB2 hn2 true (fun e=>by simp at e) (by rfl)) ?_
      rintro v _ ⟨⟨z,rfl⟩,rfl⟩
      refine wsT ?_
      refine Zax e152 (vs:=[]) rfl (ZaG ok e152 (by rfl)) ?_
      rintro v _ ⟨rfl,rfl⟩
      refine wsT ?_
      refine Zcj rfl (ZbO ok ZcX rfl (.inl rfl) (.inl (by simp[Hp.tagged,cd]))) ?_
      rintro v _ ⟨rfl,rfl⟩
      refine wsT ?_
      refine Zax e165 (vs:=[ptr c.M]) rfl (Zcm ok e165 rfl) ?_
      rintro v _ ⟨rfl,l,Hl,h1,h2,h3,h4,h5,rfl⟩
      refine wsT ?_
      exact⟨l,Hl,h1,h2,h3,h4,h5,rfl⟩
     ·refine ZaD rfl rfl rfl (by omega) ?_
      refine wsT ?_
      refine Zax e196 (vs:=[ptr c.M,.int .i32 (-7)]) rfl (Zcn ok e196 hB2 hn2 false (fun _=>h1) (by rfl)) ?_
      rintro v _ ⟨⟨z,rfl⟩,rfl⟩
      refine wsT ?_
      refine Zax e152 (vs:=[]) rfl (ZaG ok e152 (by rfl)) ?_
      rintro v _ ⟨rfl,rfl⟩
      refine wsT ?_
      refine Zcj rfl (ZbO ok ZcX rfl (.inl rfl) (.inl (by simp[Hp.tagged,cd]))) ?_
      rintro v _ ⟨rfl,rfl⟩
      refine wsT ?_
      refine Zax e165 (vs:=[ptr c.M]) rfl (Zcm ok e165 rfl) ?_
      rintro v _ ⟨rfl,l,Hl,h1,h2,h3,h4,h5,rfl⟩
      refine wsT ?_
      exact⟨l,Hl,h1,h2,h3,h4,h5,rfl⟩
  ·refine Za8 rfl rfl rfl hw0 ?_
   refine wsT ?_
   refine ZaD rfl rfl rfl hw0 ?_
   refine wsT ?_
   refine Zax e212 (vs:=[.pointer (some ((mkA c.M).add 1)),_,.int .i64 2]) rfl (Zh2 ok e212 rfl (by rfl)) ?_
   rintro v _ ⟨rfl,rfl⟩
   refine wsT ?_
   refine Zax e211 (vs:=[]) rfl (Zfx ok e211 nr211 (by simp[Hp.tagged,cd])) ?_
   rintro v _ ⟨⟨z2,rfl⟩,rfl⟩
   refine wsT ?_
   refine Zam rfl rfl (.inr (.inr (.inr rfl))) rfl ?_
   refine wsT ?_
   refine ZaY rfl rfl rfl ?_
   intro b3 _
   refine wsT ?_
   cases b3
   ·refine wsT ?_
    refine ZbV rfl (ZcL (M:=m) ok t21 rfl (by rfl)) ?_
    rintro v _ (⟨L2,n2,m2,hB2,rfl,rfl,hm⟩ | ⟨n2,hB2,hn2,rfl,rfl⟩)
    ·refine wsT ?_
     refine Zam rfl rfl (.inl rfl) hB2.and4 ?_
     refine wsT ?_
     refine ZaA rfl rfl rfl (by simp) ?_
     refine wsT ?_
     exact⟨⟨true,false,0,wst,L2,1,0,n2,m2⟩,by simp only;omega,⟨hB2,by simp only;omega,fun e=>by simp at e,fun _=>⟨rfl,rfl,rfl⟩⟩,⟨rfl,rfl,rfl,rfl,rfl,rfl,trivial⟩,trivial,rfl⟩
    ·refine wsT ?_
     refine Zam rfl rfl (.inl rfl) hB2.and4 ?_
     refine wsT ?_
     refine Za8 rfl rfl rfl (by simp) ?_
     refine wsT ?_
     refine Zam rfl rfl (.inl rfl) hB2.and3 ?_
     refine wsT ?_
     refine ZaA rfl rfl rfl (by simp) ?_
     refine wsT ?_
     refine Za5 rfl rfl (.inl rfl) (by decide) hB2.shr3 ?_
     refine wsT ?_
     refine ZaD rfl rfl rfl (by omega) ?_
     refine wsT ?_
     refine Zam rfl rfl (.inr (.inr (.inr rfl))) (v:=.int .i32 (-11)) rfl ?_
     refine wsT ?_
     refine Zax e196 (vs:=[ptr c.M,.int .i32 (-11)]) rfl (Zcn ok e196 hB2 hn2 true (fun e=>by simp at e) (by rfl)) ?_
     rintro v _ ⟨⟨z,rfl⟩,rfl⟩
     refine wsT ?_
     refine Zax e152 (vs:=[]) rfl (ZaG ok e152 (by rfl)) ?_
     rintro v _ ⟨rfl,rfl⟩
     refine wsT ?_
     refine Zcj rfl (ZbO ok ZcX rfl (.inl rfl) (.inl (by simp[Hp.tagged,cd]))) ?_
     rintro v _ ⟨rfl,rfl⟩
     refine wsT ?_
     refine Zax e165 (vs:=[ptr c.M]) rfl (Zcm ok e165 rfl) ?_
     rintro v _ ⟨rfl,l,Hl,h1,h2,h3,h4,h5,rfl⟩
     refine wsT ?_
     exact⟨l,Hl,h1,h2,h3,h4,h5,rfl⟩
   ·refine wsT ?_
    refine ZbV rfl (ZcL (M:=m) ok t21 rfl (by rfl)) ?_
    rintro v _ (⟨L2,n2,m2,hB2,rfl,rfl,hm⟩ | ⟨n2,hB2,hn2,rfl,rfl⟩)
    ·refine wsT ?_
     refine Zam rfl rfl (.inl rfl) hB2.and4 ?_
     refine wsT ?_
     refine ZaA rfl rfl rfl (by simp) ?_
     refine wsT ?_
     exact⟨⟨true,true,0,wst,L2,1,0,n2,m2⟩,by simp only;omega,⟨hB2,by simp only;omega,fun e=>by simp at e,fun _=>⟨rfl,rfl,rfl⟩⟩,⟨rfl,rfl,rfl,rfl,rfl,rfl,trivial⟩,trivial,rfl⟩
    ·refine wsT ?_
     refine Zam rfl rfl (.inl rfl) hB2.and4 ?_
     refine wsT ?_
     refine Za8 rfl rfl rfl (by simp) ?_
     refine wsT ?_
     refine Zam rfl rfl (.inl rfl) hB2.and3 ?_
     refine wsT ?_
     refine ZaA rfl rfl rfl (by simp) ?_
     refine wsT ?_
     refine Za5 rfl rfl (.inl rfl) (by decide) hB2.shr3 ?_
     refine wsT ?_
     refine ZaD rfl rfl rfl (by omega) ?_
     refine wsT ?_
     refine Za5 rfl rfl (.inl rfl) (by decide) hB2.shr3 ?_
     refine wsT ?_
     by_cases h1:n2=1
     ·refine ZaV rfl rfl rfl (by omega) ?_
      refine wsT ?_
      refine Zam rfl rfl (.inr (.inr (.inr rfl))) (v:=.int .i32 (-11)) rfl ?_
      refine wsT ?_
      refine Zax e196 (vs:=[ptr c.M,.int .i32 (-11)]) rfl (Zcn ok e196 hB2 hn2 true (fun e=>by simp at e) (by rfl)) ?_
      rintro v _ ⟨⟨z,rfl⟩,rfl⟩
      refine wsT ?_
      refine Zax e152 (vs:=[]) rfl (ZaG ok e152 (by rfl)) ?_
      rintro v _ ⟨rfl,rfl⟩
      refine wsT ?_
      refine Zcj rfl (ZbO ok ZcX rfl (.inl rfl) (.inl (by simp[Hp.tagged,cd]))) ?_
      rintro v _ ⟨rfl,rfl⟩
      refine wsT ?_
      refine Zax e165 (vs:=[ptr c.M]) rfl (Zcm ok e165 rfl) ?_
      rintro v _ ⟨rfl,l,Hl,h1,h2,h3,h4,h5,rfl⟩
      refine wsT ?_
      exact⟨l,Hl,h1,h2,h3,h4,h5,rfl⟩
     ·refine ZaD rfl rfl rfl (by omega) ?_
      refine wsT ?_
      refine Zax e196 (vs:=[ptr c.M,.int .i32 (-7)]) rfl (Zcn ok e196 hB2 hn2 false (fun _=>h1) (by rfl)) ?_
      rintro v _ ⟨⟨z,rfl⟩,rfl⟩
      refine wsT ?_
      refine Zax e152 (vs:=[]) rfl (ZaG ok e152 (by rfl)) ?_
      rintro v _ ⟨rfl,rfl⟩
      refine wsT ?_
      refine Zcj rfl (ZbO ok ZcX rfl (.inl rfl) (.inl (by simp[Hp.tagged,cd]))) ?_
      rintro v _ ⟨rfl,rfl⟩
      refine wsT ?_
      refine Zax e165 (vs:=[ptr c.M]) rfl (Zcm ok e165 rfl) ?_
      rintro v _ ⟨rfl,l,Hl,h1,h2,h3,h4,h5,rfl⟩
      refine wsT ?_
      exact⟨l,Hl,h1,h2,h3,h4,h5,rfl⟩):G:=h
structure LkI where
 aw:Bool
 st:Bool
 it:Int
 ws:Int
 L:Nat
 W:Nat
 S:Nat
 n:Nat
 m:Nat
theorem Zcu {P:PQ}{α:Type}{a:α}{Q:α->Bool->Hp->Prop}{g:Bool}{H:Hp}(h:Q a g H):wpL P (pure a) Q g H:=h
theorem ZfB {P:PQ}{it:Int}{Q:Value->Bool->Hp->Prop}{g:Bool}{H:Hp}(hs:P.still H.gh=false)(h:∀ b:Bool,(b=true->it<4)->Q (.bool b) g H):wpL P (Extern.Sync.canSpin #[.int .i64 it]) Q g H:=by
 rw[Go.Conc.canSpin_eq]
 split
 ·exact h false (by simp)
 ·rename_i hn
  have hlt:it<4:=by omega
  rw[Zaa]
  have key:∀ (t:Nat),wpL P (pure (.bool (decide (t=1)))) Q g H:=fun t=>h _ fun _=>hlt
  show wpL P (.choose _ _) _ g H
  simp only[wpL]
  split
  ·exact key _
  ·exact⟨hs,fun t=>key _⟩
section
variable  {P:Prg}{d:Option Nat}{next:NSt->Hp->Prop}{σ:NSt}{H:Hp}{x y:Operand}
theorem ZhK {m n r:Int}(e1:σ.get x=some (.int .i32 m))(e2:σ.get y=some (.int .i32 n))(hr:IntKind.i32.wrap (m+n)=r)(h:next (σ.set d (.int .i32 r)) H):(NOp.bin .add x y).m P d next σ H:=
 ZaY e1 e2 rfl (by subst hr;exact h)
end
section
variable  {c:Cx}{i:Nat}
set_option maxHeartbeats 4000000
theorem Zjk (ok:c.Ok)(H:Hp)(hg:H.gh=[3]):LL.Zag (pw c i) 211 #[ptr c.M] H fun _ H'=>Got c i H H':=by
 refine IsN.m (P:=pw c i) c195 (args:=[ptr c.M]) rfl ?_
 unfold n195
 refine wsT ?_
 refine ZbV rfl (Zek (M:=0) ok t21 rfl (.inl hg)) ?_
 rintro v _ ⟨L0,W0,S0,n0,m0,hB0,rfl,rfl,_,_⟩
 refine wsT ?_
 refine Zf0 (fun (j:LkI) H'=>Bits j.L j.W j.S j.n∧(0<=j.it∧j.it<=4)∧(j.aw=false->j.st=false∧H'=H.tagged [4,stv j.L j.W j.S j.n,j.m])∧(j.aw=true->j.W=1∧j.S=0∧H'=H.tagged [6,stv j.L j.W j.S j.n,j.m]))
  (fun j=>j.m * 8+(5-j.it).toNat) (fun j=>[(0,ptr c.M),(2,.int .i64 j.ws),(3,.bool j.st),(4,.bool j.aw),(5,.int .i64 j.it),(6,.int .i32 (stv j.L j.W j.S j.n:Nat))]) (fun _=>[]) ⟨false,false,0,0,L0,W0,S0,n0,m0⟩
  ⟨hB0,by simp,fun _=>⟨rfl,rfl⟩,fun e=>by simp at e⟩ ⟨rfl,rfl,rfl,rfl,rfl,rfl,trivial⟩ trivial ?_
 rintro⟨aw,st,it,wst,L,W,S,n,m⟩ H' ⟨hB,hit,hI1,hI2⟩
 simp only at hB hit hI1 hI2
 refine wsT ?_
 refine Zam rfl rfl (.inl rfl) hB.and5 ?_
 refine wsT ?_
 have noSpin:True:=trivial
 cases aw with
 | false=>
  obtain⟨rfl,rfl⟩:=hI1 rfl
  by_cases hLS:L=1∧S=0
  ·obtain⟨rfl,rfl⟩:=hLS
   refine ZaV rfl rfl rfl (by simp) ?_
   refine wsT ?_
   refine Ze0 e208 (vs:=[.int .i64 it]) rfl (ZfB rfl ?_)
   intro b hb
   cases b
   ·refine wsT ?_
    refine Zam rfl rfl (.inl rfl) hB.and4 ?_
    refine wsT ?_
    refine ZaV rfl rfl rfl (by simp) ?_
    refine wsT ?_
    refine Zam rfl rfl (.inr (.inl rfl)) hB.or1 ?_
    refine wsT ?_
    refine Zam rfl rfl (.inl rfl) hB.and5 ?_
    refine wsT ?_
    refine Za8 rfl rfl rfl (by simp) ?_
    refine wsT ?_
    refine ZhK rfl rfl hB.add8 ?_
    refine wsT ?_
    refine Zax e194 (vs:=[ptr c.M,.int .i32 (stv 1 W 0 n:Nat),.int .i32 (stv 1 W 0 (n+1):Nat)]) rfl (ZdL (M:=m) ok e194 hB (by omega) (by rfl)) ?_
    rintro v _ (⟨rfl,rfl⟩ | ⟨rfl,rfl⟩)
    ·exact qLkD0
    ·exact qLkD3
   ·have hit4:=hb rfl
    refine wsT ?_
    refine Zam rfl rfl (.inl rfl) hB.and2 ?_
    refine wsT ?_
    rcases le1 hB.W with rfl | rfl
    ·refine ZaV rfl rfl rfl (by simp) ?_
     refine wsT ?_
     refine Za5 rfl rfl (.inl rfl) (by decide) hB.shr3 ?_
     refine wsT ?_
     by_cases hn:n=0
     ·refine ZaA rfl rfl rfl (by simpa using hn) ?_
      exact qLkD4
     ·refine Za8 rfl rfl rfl (by simpa using hn) ?_
      refine wsT ?_
      refine Zam rfl rfl (.inr (.inl rfl)) hB.or2 ?_
      refine wsT ?_
      refine Zax e194 (vs:=[ptr c.M,.int .i32 (stv 1 0 0 n:Nat),.int .i32 (stv 1 1 0 n:Nat)]) rfl (ZiW (M:=m) ok e194 hB (by rfl)) ?_
      rintro v _ (⟨rfl,rfl⟩ | ⟨rfl,rfl⟩)
      ·refine wsT ?_
       refine wsT ?_
       refine Ze0 e209 (vs:=[]) rfl ?_
       refine(Zcu ?_)
       refine wsT ?_
       refine ZaY rfl rfl rfl ⟨by unfold InR;simp only;omega,?_⟩
       refine wsT ?_
       refine ZbV rfl (Zej (M:=m) ok t21 rfl (.inl rfl)) ?_
       rintro v _ ⟨L2,n2,m2,hB2,rfl,rfl,hm,_⟩
       have hm:=hm rfl
       refine wsT ?_
       exact⟨⟨true,false,(it+1),wst,L2,1,0,n2,m2⟩,by simp only;omega,⟨hB2,by simp only;omega,fun e=>by simp at e,fun _=>⟨rfl,rfl,rfl⟩⟩,⟨rfl,rfl,rfl,rfl,rfl,rfl,trivial⟩,trivial,rfl⟩
      ·refine wsT ?_
       refine wsT ?_
       refine Ze0 e209 (vs:=[]) rfl ?_
       refine(Zcu ?_)
       refine wsT ?_
       refine ZaY rfl rfl rfl ⟨by unfold InR;simp only;omega,?_⟩
       refine wsT ?_
       refine ZbV rfl (Zek (M:=m) ok t21 rfl (.inr (.inl rfl))) ?_
       rintro v _ ⟨L2,W2,S2,n2,m2,hB2,rfl,rfl,hm,_⟩
       have hm:=hm rfl
       refine wsT ?_
       exact⟨⟨false,false,(it+1),wst,L2,W2,S2,n2,m2⟩,by simp only;omega,⟨hB2,by simp only;omega,fun _=>⟨rfl,rfl⟩,fun e=>by simp at e⟩,⟨rfl,rfl,rfl,rfl,rfl,rfl,trivial⟩,trivial,rfl⟩
    ·refine ZaD rfl rfl rfl (by simp) ?_
     exact qLkD4
  ·refine ZaD rfl rfl rfl (by omega) ?_
   refine wsT ?_
   rcases le1 hB.S with rfl | rfl
   ·have hL0:L=0:=by have:=hB.L;omega
    subst hL0
    refine Zam rfl rfl (.inl rfl) hB.and4 ?_
    refine wsT ?_
    refine ZaV rfl rfl rfl (by simp) ?_
    refine wsT ?_
    refine Zam rfl rfl (.inr (.inl rfl)) hB.or1 ?_
    refine wsT ?_
    refine Zam rfl rfl (.inl rfl) hB.and5 ?_
    refine wsT ?_
    refine ZaA rfl rfl rfl (by simp) ?_
    refine wsT ?_
    refine Zax e194 (vs:=[ptr c.M,.int .i32 (stv 0 W 0 n:Nat),.int .i32 (stv 1 W 0 n:Nat)]) rfl (Zh3 (M:=m) ok e194 hB (by rfl)) ?_
    rintro v _ (⟨rfl,rfl⟩ | ⟨rfl,rfl⟩)
    ·exact qLkD7
    ·exact qLkD3
   ·refine Zam rfl rfl (.inl rfl) hB.and4 ?_
    refine wsT ?_
    refine ZaD rfl rfl rfl (by simp) ?_
    refine wsT ?_
    refine Zam rfl rfl (.inl rfl) hB.and5 ?_
    refine wsT ?_
    refine Za8 rfl rfl rfl (by omega) ?_
    refine wsT ?_
    refine ZhK rfl rfl hB.add8 ?_
    refine wsT ?_
    refine Zax e194 (vs:=[ptr c.M,.int .i32 (stv L W 1 n:Nat),.int .i32 (stv L W 1 (n+1):Nat)]) rfl (ZdL (M:=m) ok e194 hB (by omega) (by rfl)) ?_
    rintro v _ (⟨rfl,rfl⟩ | ⟨rfl,rfl⟩)
    ·exact qLkD0
    ·exact qLkD3
 | true=>
  obtain⟨rfl,rfl,rfl⟩:=hI2 rfl
  rcases le1 hB.L with rfl | rfl
  ·refine ZaD rfl rfl rfl (by simp) ?_
   refine wsT ?_
   refine Zam rfl rfl (.inl rfl) hB.and4 ?_
   refine wsT ?_
   refine ZaV rfl rfl rfl (by simp) ?_
   refine wsT ?_
   refine Zam rfl rfl (.inr (.inl rfl)) hB.or1 ?_
   refine wsT ?_
   refine Zam rfl rfl (.inl rfl) hB.and5 ?_
   refine wsT ?_
   have hB1:Bits 1 1 0 n:=⟨by omega,by omega,by omega,hB.n⟩
   refine ZaA rfl rfl rfl (by simp) ?_
   cases st
   ·refine wsT ?_
    refine Zam rfl rfl (.inl rfl) hB1.and2 ?_
    refine wsT ?_
    refine ZaD rfl rfl rfl (by simp) ?_
    refine wsT ?_
    refine Zam rfl rfl (.inr (.inr (.inl rfl))) hB1.not2 ?_
    refine wsT ?_
    refine Zax e194 (vs:=[ptr c.M,.int .i32 (stv 0 1 0 n:Nat),.int .i32 (stv 1 0 0 n:Nat)]) rfl (Zem (M:=m) ok e194 hB (by rfl)) ?_
    rintro v _ (⟨rfl,rfl⟩ | ⟨rfl,rfl⟩)
    ·exact qLkD7
    ·exact qLkD5
   ·refine wsT ?_
    refine Zam rfl rfl (.inl rfl) hB.and1 ?_
    refine wsT ?_
    refine ZaA rfl rfl rfl (by simp) ?_
    refine wsT ?_
    refine Zam rfl rfl (.inl rfl) hB1.and2 ?_
    refine wsT ?_
    refine ZaD rfl rfl rfl (by simp) ?_
    refine wsT ?_
    refine Zam rfl rfl (.inr (.inr (.inl rfl))) hB1.not2 ?_
    refine wsT ?_
    refine Zax e194 (vs:=[ptr c.M,.int .i32 (stv 0 1 0 n:Nat),.int .i32 (stv 1 0 0 n:Nat)]) rfl (Zem (M:=m) ok e194 hB (by rfl)) ?_
    rintro v _ (⟨rfl,rfl⟩ | ⟨rfl,rfl⟩)
    ·exact qLkD7
    ·exact qLkD6
  ·refine ZaV rfl rfl rfl (by simp) ?_
   refine wsT ?_
   refine Ze0 e208 (vs:=[.int .i64 it]) rfl (ZfB rfl ?_)
   intro b hb
   cases b
   ·refine wsT ?_
    refine Zam rfl rfl (.inl rfl) hB.and4 ?_
    refine wsT ?_
    refine ZaV rfl rfl rfl (by simp) ?_
    refine wsT ?_
    refine Zam rfl rfl (.inr (.inl rfl)) hB.or1 ?_
    refine wsT ?_
    refine Zam rfl rfl (.inl rfl) hB.and5 ?_
    refine wsT ?_
    have hB1:Bits 1 1 0 n:=⟨by omega,by omega,by omega,hB.n⟩
    refine Za8 rfl rfl rfl (by simp) ?_
    refine wsT ?_
    refine ZhK rfl rfl hB.add8 ?_
    have hB':Zc1 1 1 0 (n+1):=⟨by omega,by omega,by omega,by have:=hB.n;omega⟩
    have hB4:Zc1 1 1 1 (n+1):=⟨by omega,by omega,by omega,by have:=hB.n;omega⟩
    cases st
    ·refine wsT ?_
     refine Zam rfl rfl (.inl rfl) hB'.and2 ?_
     refine wsT ?_
     refine ZaD rfl rfl rfl (by simp) ?_
     refine wsT ?_
     refine Zam rfl rfl (.inr (.inr (.inl rfl))) hB'.not2 ?_
     refine wsT ?_
     refine Zax e194 (vs:=[ptr c.M,.int .i32 (stv 1 1 0 n:Nat),.int .i32 (stv 1 0 0 (n+1):Nat)]) rfl (ZdK (M:=m) ok e194 false hB (by rfl)) ?_
     rintro v _ (⟨rfl,rfl⟩ | ⟨rfl,rfl⟩)
     ·exact qLkD0
     ·exact qLkD5
    ·refine wsT ?_
     refine Zam rfl rfl (.inl rfl) hB.and1 ?_
     refine wsT ?_
     refine Za8 rfl rfl rfl (by simp) ?_
     refine wsT ?_
     refine Zam rfl rfl (.inr (.inl rfl)) hB'.or4 ?_
     refine wsT ?_
     refine Zam rfl rfl (.inl rfl) hB4.and2 ?_
     refine wsT ?_
     refine ZaD rfl rfl rfl (by simp) ?_
     refine wsT ?_
     refine Zam rfl rfl (.inr (.inr (.inl rfl))) hB4.not2 ?_
     refine wsT ?_
     refine Zax e194 (vs:=[ptr c.M,.int .i32 (stv 1 1 0 n:Nat),.int .i32 (stv 1 0 1 (n+1):Nat)]) rfl (ZdK (M:=m) ok e194 true hB (by rfl)) ?_
     rintro v _ (⟨rfl,rfl⟩ | ⟨rfl,rfl⟩)
     ·refine wsT ?_
      refine wsT ?_
      refine Zam rfl rfl (.inl rfl) hB.and5 ?_
      refine wsT ?_
      refine ZaD rfl rfl rfl (by omega) ?_
      refine wsT ?_
      by_cases hw0:wst=0
      ·refine ZaA rfl rfl rfl hw0 ?_
       refine wsT ?_
       refine ZaV rfl rfl rfl hw0 ?_
       refine wsT ?_
       refine Zax e211 (vs:=[]) rfl (Zfx ok e211 nr211 (by simp[Hp.tagged,cd])) ?_
       rintro v _ ⟨⟨z1,rfl⟩,rfl⟩
       refine wsT ?_
       refine Zax e212 (vs:=[.pointer (some ((mkA c.M).add 1)),_,.int .i64 2]) rfl (Zh2 ok e212 rfl (by rfl)) ?_
       rintro v _ ⟨rfl,rfl⟩
       refine wsT ?_
       refine ZbV rfl (ZcL (M:=m) ok t21 rfl (by rfl)) ?_
       rintro v _ (⟨L2,n2,m2,hB2,rfl,rfl,hm⟩ | ⟨n2,hB2,hn2,rfl,rfl⟩)
       ·refine wsT ?_
        refine Zam rfl rfl (.inl rfl) hB2.and4 ?_
        refine wsT ?_
        refine ZaA rfl rfl rfl (by simp) ?_
        refine wsT ?_
        exact⟨⟨true,true,0,z1,L2,1,0,n2,m2⟩,by simp only;omega,⟨hB2,by simp only;omega,fun e=>by simp at e,fun _=>⟨rfl,rfl,rfl⟩⟩,⟨rfl,rfl,rfl,rfl,rfl,rfl,trivial⟩,trivial,rfl⟩
       ·exact qLkD2
      ·refine Za8 rfl rfl rfl hw0 ?_
       refine wsT ?_
       refine ZaD rfl rfl rfl hw0 ?_
       refine wsT ?_
       refine Zax e212 (vs:=[.pointer (some ((mkA c.M).add 1)),_,.int .i64 2]) rfl (Zh2 ok e212 rfl (by rfl)) ?_
       rintro v _ ⟨rfl,rfl⟩
       refine wsT ?_
       refine ZbV rfl (ZcL (M:=m) ok t21 rfl (by rfl)) ?_
       rintro v _ (⟨L2,n2,m2,hB2,rfl,rfl,hm⟩ | ⟨n2,hB2,hn2,rfl,rfl⟩)
       ·refine wsT ?_
        refine Zam rfl rfl (.inl rfl) hB2.and4 ?_
        refine wsT ?_
        refine ZaA rfl rfl rfl (by simp) ?_
        refine wsT ?_
        exact⟨⟨true,true,0,wst,L2,1,0,n2,m2⟩,by simp only;omega,⟨hB2,by simp only;omega,fun e=>by simp at e,fun _=>⟨rfl,rfl,rfl⟩⟩,⟨rfl,rfl,rfl,rfl,rfl,rfl,trivial⟩,trivial,rfl⟩
       ·exact qLkD2
     ·exact qLkD6
   ·have hit4:=hb rfl
    refine wsT ?_
    refine wsT ?_
    refine Ze0 e209 (vs:=[]) rfl ?_
    refine(Zcu ?_)
    refine wsT ?_
    refine ZaY rfl rfl rfl ⟨by unfold InR;simp only;omega,?_⟩
    refine wsT ?_
    refine ZbV rfl (Zej (M:=m) ok t21 rfl (.inr ⟨_,rfl⟩)) ?_
    rintro v _ ⟨L2,n2,m2,hB2,rfl,rfl,_,hm⟩
    have hm:=hm ⟨_,rfl⟩
    refine wsT ?_
    exact⟨⟨true,st,(it+1),wst,L2,1,0,n2,m2⟩,by simp only;omega,⟨hB2,by simp only;omega,fun e=>by simp at e,fun _=>⟨rfl,rfl,rfl⟩⟩,⟨rfl,rfl,rfl,rfl,rfl,rfl,trivial⟩,trivial,rfl⟩
end
end Go.Proofs
end
section
open Go Go.LL
namespace Go.LL
section
variable  {P:Prg}{d:Option Nat}{next:NSt->Hp->Prop}{σ:NSt}{H:Hp}{x y:Operand}
theorem Zb2 {t t2 ty:TypeId}{k k2:IntKind}{n r:Int}(h1:(P.underlying t).isSome=true)(h2:P.underlying t2=some (.int k2))(e:σ.get x=some (.int k n))(hr:k2.wrap n=r)(h:next (σ.set d (.int k2 r)) H):(NOp.raw (.convert t t2 x) ty).m P d next σ H:=by
 obtain⟨dt,hd⟩:=Option.isSome_iff_exists.mp h1
 refine⟨by simp[Op.operands,e],.inl ?_⟩
 have:execOp (fun x=>(σ.get x).getD undef) (bare (.convert t t2 x) ty)=(do pure (.value (<-convert t t2 (.int k n))):Sem Next):=by simp[execOp,bare,e]
 rw[this,Zaa]
 simp only[convert,Zaa,Zad hd,Zad h2,Conv.intToInt]
 subst hr
 exact .inr h
theorem Zfo {f:FuncId}{xs:Array Operand}{ts:Array TypeId}{ty:TypeId}{vs:List Value}(ha:σ.gets xs.toList=some vs)(h:next ({ σ with defs:={ target:=.fn (.func f) #[],args:=vs.toArray } :: σ.defs }.set d undef) H) :
  (NOp.raw (.defer { callee:=.value (.func f),args:=xs,argTypes:=ts }) ty).m P d next σ H:=by
 obtain⟨h1,h2⟩:=Zb3 ha
 refine⟨ZeS h2,.inl ?_⟩
 have:execOp (fun x=>(σ.get x).getD undef) (bare (.defer { callee:=.value (.func f),args:=xs,argTypes:=ts }) ty)=pure (.defer { target:=.fn (.func f) #[],args:=vs.toArray }):=by
  obtain⟨xs⟩:=xs
  have e:(σ.get (.func f)).getD undef=.func (.func f) #[] #[]:=rfl
  simp[execOp,bare,resolve,Deferred.ofValue,e,List.map_toArray,h1]
 rw[this]
 exact .inr ⟨rfl,rfl,h⟩
theorem ZhO {rs:List NRes}{Post:Value->Hp->Prop}{vs:List Value}(hc:rs.any NRes.cell=false)(hv:Zhx σ rs=some vs)(h:NUnw P σ.defs (Post (Zbd vs)) H):Zeq P rs Post σ H:=by
 unfold Zeq ZjG
 exact NUnw.imp (fun H h=>⟨fun e=>by rw[hc]at e;simp at e,vs,Zfl hv,h⟩) h
theorem Zmb {f:FuncId}{vs:Array Value}{K:Hp->Prop}{ds:List Deferred}(hv:Vals P.toProgram (callFunc f vs))(h:ShOp P (callFunc f vs) false false H fun _ H'=>NUnw P ds K H'):NUnw P ({ target:=.fn (.func f) #[],args:=vs } :: ds) K H:=by
 refine⟨rfl,.inr ?_⟩
 have:invoke (.fn (.func f) #[]) vs=callFunc f vs:=by simp[invoke]
 rw[this]
 exact⟨hv,h⟩
theorem Zjf {f:FuncId}{fn:Func}{vs:Array Value}{K:Hp->Prop}{ds:List Deferred}(hf:P.funcs[f]? = some fn)(hb:fn.body.isSome=true)(hn:(fn.name == "runtime.NumGoroutine")=false)(h:ZbE P .deferred f vs H fun _ H'=>NUnw P ds K H') :
  NUnw P ({ target:=.fn (.func f) #[],args:=vs } :: ds) K H:=by
 refine⟨rfl,.inl ?_⟩
 have hbn:fn.body.isNone=false:=by simpa using hb
 have:invoke (.fn (.func f) #[]) vs=callFunc f vs:=by simp[invoke]
 rw[this]
 simp only[callFunc,Zaa,ZaU,hf,hn,hbn,Bool.false_eq_true,if_false]
 exact h
end
theorem and_high (v wt m:Nat)(h1:wt<4294967296)(hm:m<4294967296):wgv v wt &&& m=wt &&& m:=by
 refine Nat.eq_of_testBit_eq fun i=>?_
 rw[Nat.testBit_and,Nat.testBit_and,show wgv v wt=2 ^ 32 * v+wt by unfold wgv;omega,Nat.testBit_two_pow_mul_add _ (show wt<2 ^ 32 from h1)]
 by_cases h:i<32
 ·simp[h]
 ·have:m.testBit i=false:=Nat.testBit_lt_two_pow (Nat.lt_of_lt_of_le hm (by rw[show (4294967296:Nat)=2 ^ 32 from rfl];exact Nat.pow_le_pow_right (by decide) (by omega)))
  simp[this]
theorem ZfZ (x:Nat)(hx:x<18446744073709551616):(BitVec.ofInt 64 (x:Nat)).toNat=x:=by
 simp[BitVec.toNat_ofInt];omega
theorem wg_and {v wt m:Nat}(hv:v<=100000002)(h1:wt<=1)(hm:m<4294967296):bitV .and .u64 (wgv v wt:Nat) (m:Nat)=.int .u64 ((wt &&& m:Nat):Int):=by
 have hx':wgv v wt<18446744073709551616:=by unfold wgv;omega
 have hk':m<18446744073709551616:=by omega
 have hle:wt &&& m<=wt:=Nat.and_le_left
 show Value.int .u64 (IntKind.u64.wrap ((BitVec.ofInt 64 (wgv v wt:Nat) &&& BitVec.ofInt 64 (m:Nat)).toNat:Nat))=_
 rw[BitVec.toNat_and,ZfZ _ hx',ZfZ _ hk',and_high v wt m (by omega) hm,Zi1 (by omega) (by omega)]
theorem Zfg {v wt:Nat}(hv:v<=100000002)(h1:wt<=1):bitV .and .u64 (wgv v wt:Nat) 2147483648=.int .u64 (0:Nat):=by
 refine(wg_and (m:=2147483648) hv h1 (by decide)).trans ?_
 rcases le1 h1 with rfl | rfl<;>rfl
theorem wg_wt {v wt:Nat}(hv:v<=100000002)(h1:wt<=1):bitV .and .u64 (wgv v wt:Nat) 2147483647=.int .u64 (wt:Nat):=by
 refine(wg_and (m:=2147483647) hv h1 (by decide)).trans ?_
 rcases le1 h1 with rfl | rfl<;>rfl
theorem wg_v {v wt:Nat}(h1:wt<=1):bitV .shr .u64 (wgv v wt:Nat) 32=.int .u64 (v:Nat):=by
 show Value.int .u64 (Int.fdiv (wgv v wt:Nat) (2 ^ min (Int.toNat (32:Int)) 64))=_
 have:(2:Int) ^ min (Int.toNat (32:Int)) 64=4294967296:=rfl
 rw[this,Int.fdiv_eq_ediv_of_nonneg _ (by omega)]
 congr 1
 unfold wgv;omega
theorem Zhk {n:Nat}(h:n<=100000002):IntKind.i32.wrap (n:Nat)=(n:Nat):=ZdN (by omega) (by omega)
theorem Zhj {n:Nat}(h:n<=1):IntKind.u32.wrap (n:Nat)=(n:Nat):=by rcases le1 h with rfl | rfl<;>rfl
end Go.LL
namespace Go.Proofs
theorem lock_ok {c:Cx}{i:Nat}(ok:c.Ok)(hneed:c.need i=true){H:Hp}(hg:H.gh=[1]):LL.Zag (pw c i) 106 #[ptr c.M] H fun _ H'=>Got c i H H':=by
 refine IsN.m (P:=pw c i) c113 (args:=[ptr c.M]) rfl ?_
 unfold n113
 refine wsT ?_
 refine Zab (vs:=[ptr c.M]) rfl (lock163 ok hneed (fun H hg=>Zjk ok H hg) hg) ?_
 rintro v H' h
 refine wsT ?_
 exact h
theorem u3:(Tryz.prog.underlying 3).isSome=true:=by kernel_rfl
theorem u144k:Tryz.prog.underlying 189=some (.int .u64):=by kernel_rfl
theorem ZkE:(Tryz.prog.underlying 189).isSome=true:=by kernel_rfl
theorem u21:Tryz.prog.underlying 21=some (.int .i32):=by kernel_rfl
theorem u137:Tryz.prog.underlying 182=some (.int .u32):=by kernel_rfl
section
variable  {P:Prg}{H:Hp}{Post:Value->Hp->Prop}{b:Nat}
theorem w157 (hP:P.toProgram=Tryz.prog){v:Value}(h:ShOp P (callFunc 207 #[ptr b,v]) true false H Post):LL.Zag P 162 #[ptr b,v] H Post:=by
 refine IsN.m (P:=P) (by rw[hP];exact c157) (args:=[ptr b,v]) rfl ?_
 unfold n157
 refine wsT ?_
 refine Zax (hP ▸ e191) (vs:=[ptr b,v]) rfl h ?_
 intro v H' hv
 refine wsT ?_
 exact hv
theorem w159 (hP:P.toProgram=Tryz.prog)(h:ShOp P (callFunc 208 #[ptr b]) true false H Post):LL.Zag P 164 #[ptr b] H Post:=by
 refine IsN.m (P:=P) (by rw[hP];exact c159) (args:=[ptr b]) rfl ?_
 unfold n159
 refine wsT ?_
 refine Zax (hP ▸ e192) (vs:=[ptr b]) rfl h ?_
 intro v H' hv
 refine wsT ?_
 exact hv
theorem w160 (hP:P.toProgram=Tryz.prog){v:Value}(h:ShOp P (callFunc 209 #[ptr b,v]) true false H fun _ H'=>Post ZaC H'):LL.Zag P 165 #[ptr b,v] H Post:=by
 refine IsN.m (P:=P) (by rw[hP];exact c160) (args:=[ptr b,v]) rfl ?_
 unfold n160
 refine wsT ?_
 refine Zax (hP ▸ e193) (vs:=[ptr b,v]) rfl h ?_
 intro v H' hv
 refine wsT ?_
 exact hv
theorem w167 (hP:P.toProgram=Tryz.prog){u v:Value}(h:ShOp P (callFunc 214 #[ptr b,u,v]) true false H Post):LL.Zag P 172 #[ptr b,u,v] H Post:=by
 refine IsN.m (P:=P) (by rw[hP];exact c167) (args:=[ptr b,u,v]) rfl ?_
 unfold n167
 refine wsT ?_
 refine Zax (hP ▸ e198) (vs:=[ptr b,u,v]) rfl h ?_
 intro v H' hv
 refine wsT ?_
 exact hv
end
theorem ZlC:Vals Tryz.prog (callFunc 157 #[]):=fun w=>⟨_,_,_,Zc9 (by simp) e152 #[] w⟩
end Go.Proofs
end
