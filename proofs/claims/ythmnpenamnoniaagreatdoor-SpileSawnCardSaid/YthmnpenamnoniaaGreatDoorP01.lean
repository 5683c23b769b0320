import Derived.Test.YthmnpenamnoniaaGreatDoorP00
set_option linter.all false
section
namespace Go.LL
theorem Zht (P:Program)(fn:FuncId)(es:Array Event):∀ e∈seen P fn es,e∈es:=by
 intro e he
 dsimp only[seen]at he
 rw[<-Array.foldl_toList]at he
 have key:∀ (l:List Event) (x:Bool×Array Event),e∈(l.foldl (fun x e=>match e.loc with
   | .mark (.extern f)=>((P.funcs[f]?).any (·.norace),x.2)
   | _=>(x.1,if (x.1 && !e.sync)=true then x.2 else x.2.push e)) x).2->e∈x.2∨e∈l:=by
  intro l
  induction l with
  | nil=>exact fun x h=>.inl h
  | cons y l ih=>
   intro x h
   simp only[List.foldl_cons]at h
   rcases ih _ h with h | h
   ·split at h
    ·exact .inl h
    ·dsimp only at h
     split at h
     ·exact .inl h
     ·rcases Array.mem_push.1 h with h | h
      ·exact .inl h
      ·exact .inr (by rw[h];simp)
   ·exact .inr (List.mem_cons_of_mem _ h)
 rcases key es.toList _ he with h | h
 ·simp at h
 ·exact Array.mem_toList_iff.1 h
abbrev gor (fr:Frame)(cs:List Frame):Goroutine:={ frame:=fr,callers:=cs,status:=.running,dying:=none }
def LStep (P:PQ)(fr:Frame)(cs:List Frame)(H:Hp)(R:Frame->List Frame->Hp->Prop):Prop:=
 (∀ (main:Bool) (w:World),H.le w ->
  ∃ fr' cs' w' H' es,stepG P main (gor fr cs) w=.go (gor fr' cs') w' es∧Fr H w H' w'∧R fr' cs' H'∧∀ e∈es,EvL H w w'.heap.size e) ∧
 (P.still H.gh=true->∃ fr' cs',(∀ (main:Bool) (w:World),stepG P main (gor fr cs) w=.go (gor fr' cs') w)∧R fr' cs' H)
theorem LStep.mono {P:PQ}{fr:Frame}{cs:List Frame}{H:Hp}{R R':Frame->List Frame->Hp->Prop}(h:LStep P fr cs H R)(hr:∀ fr cs H,R fr cs H->R' fr cs H):LStep P fr cs H R':=
 ⟨fun main w hw=>let ⟨fr',cs',w',H',es,a,b,c,d⟩:=h.1 main w hw;⟨fr',cs',w',H',es,a,b,hr _ _ _ c,d⟩,fun hs=>let ⟨fr',cs',a,b⟩:=h.2 hs;⟨fr',cs',a,hr _ _ _ b⟩⟩
structure Hp.Comp (H F:Hp):Prop where
 mem:∀ b x y,H b=some x->F b=some y->x=y∧x.2=false
 gh:H.gh=[]∨F.gh=[]
instance  {H F:Hp}:CoeFun (H.Comp F) (fun _=>∀ b x y,H b=some x->F b=some y->x=y∧x.2=false):=⟨Hp.Comp.mem⟩
def Hp.join (H F:Hp):Hp:=⟨fun b=>match H b with | some x=>some x | none=>F b,H.gh++F.gh⟩
theorem Hp.join_at (H F:Hp)(b:Nat):H.join F b=match H b with | some x=>some x | none=>F b:=rfl
theorem Hp.join_gh (H F:Hp):(H.join F).gh=H.gh++F.gh:=rfl
theorem Hp.join_left {H F:Hp}{b:Nat}{x:Obj×Bool}(h:H b=some x):H.join F b=some x:=by simp[Hp.join_at,h]
theorem Hp.join_right {H F:Hp}(hc:H.Comp F){b:Nat}{x:Obj×Bool}(h:F b=some x):H.join F b=some x:=by
 simp only[Hp.join_at]
 cases hh:H b with
 | none=>exact h
 | some y=>rw[(hc b y x hh h).1]
theorem Hp.join_none {H F:Hp}{b:Nat}:H.join F b=none↔H b=none∧F b=none:=by
 simp only[Hp.join_at]
 cases hh:H b<;>simp
theorem Hp.le.left {H F:Hp}{w:World}(h:(H.join F).le w):H.le w:=fun b o p hb=>h b o p (Hp.join_left hb)
theorem Hp.le.right {H F:Hp}{w:World}(hc:H.Comp F)(h:(H.join F).le w):F.le w:=fun b o p hb=>h b o p (Hp.join_right hc hb)
theorem Fr.comp {H F H':Hp}{w w':World}(hc:H.Comp F)(hF:F.le w)(f:Fr H w H' w'):H'.Comp F:=by
 refine⟨?_,by rw[f.gh];exact hc.gh⟩
 intro b x y h1 h2
 cases hh:H b with
 | none=>exact absurd (hF.lt h2) (Nat.not_lt.2 (f.new b hh (by rw[h1];simp)))
 | some z=>
  obtain⟨hz,hz2⟩:=hc b z y hh h2
  obtain⟨o,p⟩:=z
  obtain rfl:p=false:=hz2
  rw[f.ro b o hh]at h1
  simp at h1
  rw[<-h1,hz]
  exact⟨rfl,by rw[<-hz]⟩
theorem Fr.join {H F H':Hp}{w w':World}(hc:H.Comp F)(hw:(H.join F).le w)(f:Fr H w H' w'):Fr (H.join F) w (H'.join F) w' where
 os:=f.os
 tape:=f.tape
 out:=f.out
 drawn:=f.drawn
 size:=f.size
 keep:=fun b hb hn=>f.keep b hb fun o ho=>hn o (Hp.join_left ho)
 le:=by
  intro b o p hb
  simp only[Hp.join_at]at hb
  cases hh:H' b with
  | some x=>rw[hh]at hb;exact f.le b o p (by rw[hh];exact hb)
  | none=>
   rw[hh]at hb
   have h1:=hw.right hc b o p hb
   rw[f.keep b (Array.getElem?_eq_some_iff.1 h1).1 (fun o' ho'=>?_)]
   ·exact h1
   ·obtain⟨o2,h2⟩:=f.rw b o' ho'
    rw[hh]at h2;simp at h2
 new:=fun b h1 h2=>by
  obtain⟨ha,hb⟩:=Hp.join_none.1 h1
  refine f.new b ha fun hn=>h2 (Hp.join_none.2 ⟨hn,hb⟩)
 ro:=fun b o h=>by
  simp only[Hp.join_at]at h
  cases hh:H b with
  | some x=>rw[hh]at h;exact Hp.join_left (f.ro b o (by rw[hh];exact h))
  | none=>
   rw[hh]at h
   have hlt:=(hw.right hc).lt h
   have:H' b=none:=by
    cases h':H' b with
    | none=>rfl
    | some y=>exact absurd hlt (Nat.not_lt.2 (f.new b hh (by rw[h'];simp)))
   simp only[Hp.join_at];rw[this];exact h
 rw:=fun b o h=>by
  simp only[Hp.join_at]at h
  cases hh:H b with
  | some x=>
   rw[hh]at h
   obtain⟨o',h'⟩:=f.rw b o (by rw[hh];exact h)
   exact⟨o',Hp.join_left h'⟩
  | none=>
   rw[hh]at h
   have hlt:=(hw.right hc).lt h
   have:H' b=none:=by
    cases h':H' b with
    | none=>rfl
    | some y=>exact absurd hlt (Nat.not_lt.2 (f.new b hh (by rw[h'];simp)))
   exact⟨o,by simp only[Hp.join_at];rw[this];exact h⟩
 gh:=by rw[Hp.join_gh,Hp.join_gh,f.gh]
theorem EvL.join {H F:Hp}{w:World}{n:Nat}{e:Event}(h:EvL H w n e):EvL (H.join F) w n e:=by
 unfold EvL at h ⊢
 split at h
 ·exact⟨h.1,h.2.imp (fun ⟨o,p,h1,h2⟩=>⟨o,p,Hp.join_left h1,h2⟩) id⟩
 ·exact⟨h.1,h.2.imp (fun ⟨o,p,h1,h2⟩=>⟨o,p,Hp.join_left h1,h2⟩) id⟩
 ·trivial
 ·trivial
 ·trivial
structure Env where
 sh:(Frame->List Frame->Hp->Prop)->Frame->List Frame->Hp->Prop
 shMono:∀ {R R':Frame->List Frame->Hp->Prop},(∀ fr cs H,R fr cs H->R' fr cs H)->∀ {fr cs H},sh R fr cs H->sh R' fr cs H
 shFrame:∀ {R:Frame->List Frame->Hp->Prop} {fr cs H F},H.Comp F->sh R fr cs H->sh (fun fr cs HF=>∃ H',HF=H'.join F∧H'.Comp F∧R fr cs H') fr cs (H.join F)
structure Prg extends PQ,Env
instance:Coe Prg Program:=⟨fun P=>P.toProgram⟩
instance:Coe Prg PQ:=⟨fun P=>P.toPQ⟩
def Reach (P:Prg)(G:Frame->List Frame->Hp->Prop)(fr:Frame)(cs:List Frame)(H:Hp):Prop:=
 ∀ R:Frame->List Frame->Hp->Prop,(∀ fr cs H,G fr cs H->R fr cs H)->(∀ fr cs H,LStep P fr cs H R->R fr cs H)->(∀ fr cs H,P.sh R fr cs H->R fr cs H)->R fr cs H
section reach
variable  {P:Prg}{G G':Frame->List Frame->Hp->Prop}{fr:Frame}{cs:List Frame}{H:Hp}
theorem Reach.stop (h:G fr cs H):Reach P G fr cs H:=fun _ h1 _ _=>h1 _ _ _ h
theorem Reach.step (h:LStep P fr cs H (Reach P G)):Reach P G fr cs H:=fun R h1 h2 h3=>h2 _ _ _ (h.mono fun _ _ _ hr=>hr R h1 h2 h3)
theorem Reach.shared (h:P.sh (Reach P G) fr cs H):Reach P G fr cs H:=fun R h1 h2 h3=>h3 _ _ _ (P.shMono (fun _ _ _ hr=>hr R h1 h2 h3) h)
theorem Reach.bind (h:Reach P G fr cs H)(hg:∀ fr cs H,G fr cs H->Reach P G' fr cs H):Reach P G' fr cs H:=
 h _ hg (fun _ _ _ hs=>.step hs) (fun _ _ _ hs=>.shared hs)
theorem Reach.mono (h:Reach P G fr cs H)(hg:∀ fr cs H,G fr cs H->G' fr cs H):Reach P G' fr cs H:=h.bind fun _ _ _ hh=>.stop (hg _ _ _ hh)
theorem Reach.pure {fr':Frame}{cs':List Frame}(h:∀ main w,stepG P main (gor fr cs) w=.go (gor fr' cs') w)(hr:Reach P G fr' cs' H):Reach P G fr cs H:=
 .step ⟨fun main w hw=>⟨fr',cs',w,H,#[],h main w,.refl hw,hr,by simp⟩,fun _=>⟨fr',cs',h,hr⟩⟩
theorem Zic (P:Program)(fn:FuncId):∀ (es:Array Event),(∀ e∈es,∃ f,e=⟨.mark (.extern f),false,true⟩)->seen P fn es=#[]:=by
 intro es h
 dsimp only[seen]
 rw[<-Array.foldl_toList]
 have h':∀ e∈es.toList,∃ f,e=⟨.mark (.extern f),false,true⟩:=fun e he=>h e (Array.mem_toList_iff.1 he)
 revert h'
 generalize es.toList=l
 intro h'
 have key:∀ (l:List Event) (x:Bool×Array Event),(∀ e∈l,∃ f,e=⟨.mark (.extern f),false,true⟩)->(l.foldl (fun x e=>match e.loc with
   | .mark (.extern f)=>((P.funcs[f]?).any (·.norace),x.2)
   | _=>(x.1,if (x.1 && !e.sync)=true then x.2 else x.2.push e)) x).2=x.2:=by
  intro l
  induction l with
  | nil=>exact fun x _=>rfl
  | cons y l ih=>
   intro x hl
   obtain⟨f,rfl⟩:=hl y (by simp)
   simp only[List.foldl_cons]
   exact ih _ fun e he=>hl e (List.mem_cons_of_mem _ he)
 exact key l _ h'
theorem Reach.sem {α:Type}{s:Sem α}{Q:α->Bool->Hp->Prop}(hs:wpL P s Q false H)
  (h:∀ a H0,Q a false H0->∃ fr' cs',(∀ main w w' es,s.runT P w #[]=(.ok a w',es)->∃ es',stepG P main (gor fr cs) w=.go (gor fr' cs') w' es'∧(es'=#[]∨es'=seen P fr.fn es))∧∀ H',Q a false H'->Reach P G fr' cs' H'):Reach P G fr cs H:=by
 refine .step ⟨fun main w hw=>?_,fun hst=>?_⟩
 ·obtain⟨a,w',H',es,g,e1,e2,⟨e3,e5⟩,e4⟩:=ZlA #[] hs hw
  obtain rfl:g=false:=by
   cases g with
   | false=>rfl
   | true=>exact(e5 rfl).symm
  obtain⟨fr',cs',h1,h3⟩:=h a _ e3
  obtain⟨es',h1,h2⟩:=h1 main w w' _ e1
  refine⟨_,_,w',H',es',h1,e2,h3 _ e3,fun e he=>?_⟩
  rcases h2 with rfl | rfl
  ·simp at he
  ·exact e4 e (by simpa using Zht _ _ _ e he)
 ·obtain⟨a,es,e1,e2,e3⟩:=Zlz hst hs
  obtain⟨fr',cs',h1,h3⟩:=h a _ e1
  refine⟨fr',cs',fun main w=>?_,h3 _ e1⟩
  obtain⟨es',h4,h5⟩:=h1 main w w _ (e2 w #[])
  rw[h4]
  congr 1
  rcases h5 with h5 | h5
  ·exact h5
  ·rw[h5]
   exact Zic _ _ _ (fun e he=>e3 e (by simpa using he))
end reach
theorem Za7 {P:PQ}{H F:Hp}(hc:H.Comp F)(h:P.still H.gh=false):P.still (H.join F).gh=false:=by
 rw[Hp.join_gh]
 rcases hc.gh with e | e
 ·rw[e]at h;exact P.stillNil h _
 ·rw[e,List.append_nil];exact h
theorem ZkG {P:PQ}{H F:Hp}(hc:H.Comp F)(h:P.still (H.join F).gh=true):P.still H.gh=true:=by
 cases e:P.still H.gh with
 | true=>rfl
 | false=>rw[Za7 hc e]at h;simp at h
theorem Reach.frame {P:Prg}{G:Frame->List Frame->Hp->Prop}{fr:Frame}{cs:List Frame}{H F:Hp}(h:Reach P G fr cs H)(hc:H.Comp F) :
  Reach P (fun fr cs HF=>∃ H',HF=H'.join F∧H'.Comp F∧G fr cs H') fr cs (H.join F):=by
 refine h (fun fr cs H=>H.Comp F->Reach P (fun fr cs HF=>∃ H',HF=H'.join F∧H'.Comp F∧G fr cs H') fr cs (H.join F)) (fun fr cs H hg hc=>.stop ⟨H,rfl,hc,hg⟩) ?_ (fun fr cs H hs hc=>.shared (P.shMono (fun fr cs HF ⟨H',e,hc',hr⟩=>by rw[e];exact hr hc') (P.shFrame hc hs))) hc
 intro fr cs H hs hc
 refine .step ⟨fun main w hw=>?_,fun hst=>?_⟩
 ·obtain⟨fr',cs',w',H',es,h1,h2,h3,h4⟩:=hs.1 main w hw.left
  exact⟨fr',cs',w',H'.join F,es,h1,h2.join hc hw,h3 (h2.comp hc (hw.right hc)),fun e he=>(h4 e he).join⟩
 ·obtain⟨fr',cs',h1,h2⟩:=hs.2 (ZkG hc hst)
  exact⟨fr',cs',h1,h2 hc⟩
def Zdq (G:Frame->List Frame->Hp->Prop):Prop:=∀ fr cs H J,H.Comp J->G fr cs H->G fr cs (H.join J)
theorem Reach.up {P:Prg}{G:Frame->List Frame->Hp->Prop}{fr:Frame}{cs:List Frame}{H J:Hp}(hG:Zdq G)(h:Reach P G fr cs H)(hc:H.Comp J):Reach P G fr cs (H.join J):=
 (h.frame hc).mono fun _ _ _ ⟨_,e,hc',hg⟩=>by rw[e];exact hG _ _ _ _ hc' hg
def on (b:Frame)(a:Act)(todo:List Item):Frame:={ b with tmps:=a.tmps,todo,defers:=a.defers,mode:=.run }
inductive Ex where
 | normal
 | exit (id:Nat)
 | ret
def Zlw (P:Prg)(G:Frame->List Frame->Hp->Prop)(b:Frame)(k:List Item)(cs:List Frame):Ex->Act->Hp->Prop
 | .normal,a,H=>Reach P G (on b a k) cs H
 | .ret,a,H=>∀ k',Reach P G (on b a (.code .ret :: k')) cs H
 | .exit id,a,H=>(∀ k',exitTo id k=some k'->Reach P G (on b a k') cs H)∧(exitTo id k=none->∀ k',exitTo id k'=none->Reach P G (on b a (.code (.exit id) :: k')) cs H)
def plain:Item->Bool
 | .inBlock _=>false
 | _=>true
theorem Zlw.pass {P:Prg}{G:Frame->List Frame->Hp->Prop}{b:Frame}{x:Item}{k:List Item}{cs:List Frame}{e:Ex}{a:Act}{H:Hp}(hx:plain x=true)
  (h:Zlw P G b k cs e a H) (he:e≠.normal):Zlw P G b (x :: k) cs e a H:=by
 cases e with
 | normal=>exact absurd rfl he
 | ret=>exact h
 | exit id=>
  have:exitTo id (x :: k)=exitTo id k:=by cases x<;>simp_all[exitTo,plain]
  simp only[Zlw]at h ⊢
  rw[this]
  exact h
structure Rd where
 top:Bool
 nr:Bool
def norace (P:Program)(f:FuncId):Bool:=(P.funcs[f]?).any (·.norace)
structure Fit (P:Program)(rd:Rd)(b:Frame):Prop where
 kind:b.kind≠.early
 top:rd.top=true->b.roundOf=none
 nr:rd.nr=true->norace P b.fn=true
def Tri (P:Prg)(rd:Rd)(c:Code)(Q:Ex->Act->Hp->Prop)(a:Act)(H:Hp):Prop:=
 ∀ (G:Frame->List Frame->Hp->Prop) (b:Frame) (k:List Item) (cs:List Frame),Zdq G->Fit P rd b->(∀ e a' H',Q e a' H'->Zlw P G b k cs e a' H')->Reach P G (on b a (.code c :: k)) cs H
section code
variable  {P:Prg}{rd:Rd}{Q Q':Ex->Act->Hp->Prop}{a:Act}{H:Hp}
theorem Tri.mono {c:Code}(h:Tri P rd c Q a H)(hq:∀ e a H,Q e a H->Q' e a H):Tri P rd c Q' a H:=fun G b k cs hc hb hG=>h G b k cs hc hb fun e a' H' hh=>hG _ _ _ (hq _ _ _ hh)
theorem Tri.skip (h:Q .normal a H):Tri P rd .skip Q a H:=fun G b k cs hc hb hG=>.pure (fun main w=>by simp[stepG,stepG.exec,on]) (hG _ _ _ h)
theorem Tri.label {l:Nat}(h:Q .normal a H):Tri P rd (.label l) Q a H:=fun G b k cs hc hb hG=>.pure (fun main w=>by simp[stepG,stepG.exec,on]) (hG _ _ _ h)
theorem Tri.ret (h:Q .ret a H):Tri P rd .ret Q a H:=fun G b k cs hc hb hG=>hG _ _ _ h k
theorem Tri.exit {id:Nat}(h:Q (.exit id) a H):Tri P rd (.exit id) Q a H:=fun G b k cs hc hb hG=>by
 obtain⟨h1,h2⟩:=hG _ _ _ h
 cases hk:exitTo id k with
 | none=>exact h2 hk k hk
 | some k'=>exact .pure (fun main w=>by simp[stepG,stepG.exec,on,hk,Option.elim]) (h1 k' hk)
def Ex.then (next:Act->Hp->Prop)(Q:Ex->Act->Hp->Prop):Ex->Act->Hp->Prop
 | .normal,a,H=>next a H
 | e,a,H=>Q e a H
theorem Tri.seq {x y:Code}(h:Tri P rd x (Ex.then (Tri P rd y Q) Q) a H):Tri P rd (.seq x y) Q a H:=by
 intro G b k cs hcl hb hG
 refine .pure (fr':=on b a (.code x :: .code y :: k)) (cs':=cs) (fun main w=>by simp[stepG,stepG.exec,on]) (h G b (.code y :: k) cs hcl hb ?_)
 intro e a' H' hq
 cases e with
 | normal=>exact hq G b k cs hcl hb hG
 | ret=>exact(hG .ret a' H' hq).pass rfl (by simp)
 | exit id=>exact(hG (.exit id) a' H' hq).pass rfl (by simp)
theorem Tri.cond {c:Operand}{x y:Code}{t:Bool}(hc:a.eval c=.bool t)(h:Tri P rd (if t then x else y) Q a H):Tri P rd (.cond c x y) Q a H:=by
 intro G b k cs hcl hb hG
 refine .pure (fr':=on b a (.code (if t then x else y) :: k)) (cs':=cs) (fun main w=>?_) (h G b k cs hcl hb hG)
 have he:(on b a (.code (.cond c x y) :: k)).eval c=.bool t:=by rw[<-hc];cases c<;>rfl
 have he':Frame.eval { b with tmps:=a.tmps,todo:=.code (.cond c x y) :: k,defers:=a.defers,mode:=.run } c=.bool t:=he
 simp[stepG,stepG.exec,on,he']
def Ex.inBlock (id:Nat)(Q:Ex->Act->Hp->Prop):Ex->Act->Hp->Prop
 | .exit id',a,H=>if id'=id then Q .normal a H else Q (.exit id') a H
 | e,a,H=>Q e a H
theorem Tri.block {id:Nat}{c:Code}(h:Tri P rd c (Ex.inBlock id Q) a H):Tri P rd (.block id c) Q a H:=by
 intro G b k cs hcl hb hG
 refine .pure (fr':=on b a (.code c :: .inBlock id :: k)) (cs':=cs) (fun main w=>by simp[stepG,stepG.exec,on]) (h G b (.inBlock id :: k) cs hcl hb ?_)
 intro e a' H' hq
 cases e with
 | normal=>exact .pure (fr':=on b a' k) (cs':=cs) (fun main w=>by simp[stepG,stepG.exec,on]) (hG _ _ _ hq)
 | ret=>exact hG .ret a' H' hq
 | exit id'=>
  simp only[Ex.inBlock]at hq
  by_cases he:id'=id
  ·rw[if_pos he]at hq
   refine⟨fun k' hk=>?_,fun hk=>?_⟩
   ·simp[exitTo,he]at hk
    subst hk
    exact hG _ _ _ hq
   ·simp[exitTo,he]at hk
  ·rw[if_neg he]at hq
   have:exitTo id' (.inBlock id :: k)=exitTo id' k:=by simp[exitTo,Ne.symm he]
   have hx:=hG _ _ _ hq
   simp only[Zlw]at hx ⊢
   rw[this]
   exact hx
theorem Tri.scope {c:Code}(h:Tri P rd c Q a H):Tri P rd (.scope c) Q a H:=by
 intro G b k cs hcl hb hG
 refine .pure (fr':=on b a (.code c :: .inScope c :: k)) (cs':=cs) (fun main w=>by simp[stepG,stepG.exec,on]) (h G b (.inScope c :: k) cs hcl hb ?_)
 intro e a' H' hq
 cases e with
 | normal=>exact .pure (fr':=on b a' k) (cs':=cs) (fun main w=>by simp[stepG,stepG.exec,on]) (hG _ _ _ hq)
 | ret=>exact(hG .ret a' H' hq).pass rfl (by simp)
 | exit id=>exact(hG (.exit id) a' H' hq).pass rfl (by simp)
theorem Tri.loop {c:Code}(I:Nat->Act->Hp->Prop)(n:Nat)(h₀:I n a H)(round:∀ n a H,I n a H->Tri P rd c (Ex.then (fun a' H'=>∃ m,m<n∧I m a' H') Q) a H):Tri P rd (.loop c) Q a H:=by
 intro G b k cs hcl hb hG
 have key:∀ n a H,I n a H->Reach P G (on b a (.code c :: .inLoop c :: k)) cs H:=by
  intro n
  induction n using Nat.strongRecOn with
  | _ n ih=>
   intro a H hI
   refine round n a H hI G b (.inLoop c :: k) cs hcl hb ?_
   intro e a' H' hq
   cases e with
   | normal=>
    obtain⟨m,hm,hI'⟩:=hq
    exact .pure (fr':=on b a' (.code c :: .inLoop c :: k)) (cs':=cs) (fun main w=>by simp[stepG,stepG.exec,on]) (ih m hm a' H' hI')
   | ret=>exact(hG .ret a' H' hq).pass rfl (by simp)
   | exit id=>exact(hG (.exit id) a' H' hq).pass rfl (by simp)
 exact .pure (fr':=on b a (.code c :: .inLoop c :: k)) (cs':=cs) (fun main w=>by simp[stepG,stepG.exec,on]) (key n a H h₀)
end code
def Zag (P:Prg)(f:FuncId)(args:Array Value)(H:Hp)(Post:Value->Hp->Prop):Prop:=
 ∀ (G:Frame->List Frame->Hp->Prop) (c:Frame) (cs:List Frame),Zdq G->(∀ v H',Post v H'->Reach P G (c.finish v) cs H')->Reach P G (Frame.enter P f args .normal) (c :: cs) H
def ZdM (P:Prg)(l:Nat)(f:FuncId)(tmps:Array Value)(assign body:Code)(H:Hp)(Post:Value->Hp->Prop):Prop:=
 ∀ (G:Frame->List Frame->Hp->Prop) (c:Frame) (cs:List Frame),Zdq G->(∀ v H',Post v H'->Reach P G (c.finish v) cs H')->Reach P G (Frame.round l f tmps assign body .normal) (c :: cs) H
theorem Zag.mono {P:Prg}{f:FuncId}{args:Array Value}{H:Hp}{Post Post':Value->Hp->Prop}(h:Zag P f args H Post)(hp:∀ v H,Post v H->Post' v H):Zag P f args H Post':=
 fun G c cs hc hG=>h G c cs hc fun v H' hv=>hG v H' (hp _ _ hv)
theorem ZdM.mono {P:Prg}{l:Nat}{f:FuncId}{tmps:Array Value}{assign body:Code}{H:Hp}{Post Post':Value->Hp->Prop}(h:ZdM P l f tmps assign body H Post)(hp:∀ v H,Post v H->Post' v H):ZdM P l f tmps assign body H Post':=
 fun G c cs hc hG=>h G c cs hc fun v H' hv=>hG v H' (hp _ _ hv)
def put (a:Act)(dst:Option Tmp)(v:Value):Act:=
 match dst with
 | some d=>{ a with tmps:=a.tmps.setIfInBounds d v }
 | none=>a
def Upon (P:Prg)(dst:Option Tmp)(a:Act)(next:Act->Hp->Prop):Next->Hp->Prop
 | .value v,H=>next (put a dst v) H
 | .skip,H=>next (put a dst undef) H
 | .defer d,H=>next (put { a with defers:=d :: a.defers } dst undef) H
 | .enter f args,H=>Zag P f args H fun v H'=>next (put a dst v) H'
 | .round l f tmps assign body,H=>ZdM P l f tmps assign body H fun v H'=>next (put a dst v) H'
 | _,_=>False
def Vals (P:Program)(s:Sem Next):Prop:=∀ w,∃ v w' es,s.runT P w #[]=(.ok (.value v) w',es)
structure Zhh (P:Program)(fr:Frame)(nx:Value->Frame)(s:Sem Next)(wk nr:Bool):Prop where
 val:∀ main cs w w' v es,s.runT P w #[]=(.ok (.value v) w',es)->stepG P main (gor fr cs) w=.go (gor (nx v) cs) w' (seen P fr.fn es)
 halt:Vals P s∨∀ main cs w es,s.runT P w #[]=(.halt .blocked w,es)->stepG P main (gor fr cs) w=.go { frame:=fr,callers:=cs,status:=.blocked,dying:=none } w #[]
 spawn:Vals P s∨∀ main cs w w' f c as es,s.runT P w #[]=(.ok (.spawn { target:=.fn f c,args:=as }) w',es) ->
  stepG P main (gor fr cs) w=.spawn (gor (nx undef) cs) (gor { (default:Frame) with fn:=P.funcs.size,defers:=[{ target:=.fn f c,args:=as }],mode:=.panicking [goexitEntry] } []) w' (seen P fr.fn es)
 wake:wk=true->∀ cs,mayWake P (gor fr cs)=true
 nr:nr=true->norace P fr.fn=true
def ShOp (P:Prg)(s:Sem Next)(wk nr:Bool)(H:Hp)(Post:Value->Hp->Prop):Prop:=
 ∀ (G:Frame->List Frame->Hp->Prop) (fr:Frame) (nx:Value->Frame) (cs:List Frame),Zdq G->Zhh P fr nx s wk nr->(∀ v H',Post v H'->Reach P G (nx v) cs H')->Reach P G fr cs H
theorem ShOp.mono {P:Prg}{s:Sem Next}{wk nr:Bool}{H:Hp}{Post Post':Value->Hp->Prop}(h:ShOp P s wk nr H Post)(hp:∀ v H,Post v H->Post' v H):ShOp P s wk nr H Post':=
 fun G fr nx cs hc ha hG=>h G fr nx cs hc ha fun v H' hv=>hG v H' (hp _ _ hv)
theorem ShOp.any {P:Prg}{s:Sem Next}{wk nr:Bool}{H:Hp}{Post:Value->Hp->Prop}(h:ShOp P s wk false H Post):ShOp P s wk nr H Post:=
 fun G fr nx cs hc ha hG=>h G fr nx cs hc ⟨ha.val,ha.halt,ha.spawn,ha.wake,fun h=>by simp at h⟩ hG
def Zb7 (P:Program)(o:Oper):Bool:=
 match o.op with
 | .call { callee:=.value (.func f),.. }=>!(P.funcs[f]?).any (·.body.isSome)
 | .call { callee:=.value _,.. }=>false
 | .call _=>true
 | _=>false
def OpW (P:Prg)(nr:Bool)(o:Oper)(a:Act)(next:Act->Hp->Prop)(H:Hp):Prop:=
 wpL P (execOp a.eval o) (fun n g H'=>g=true∨Upon P o.dst a next n H') false H∨ShOp P (execOp a.eval o) (Zb7 P o) nr H fun v H'=>next (put a o.dst v) H'
def Ops (P:Prg)(nr:Bool)(ops:Array Oper)(Q:Act->Hp->Prop):List Nat->Act->Hp->Prop
 | [],a,H=>Q a H
 | i :: rest,a,H=>
  match ops[i]? with
  | none=>Ops P nr ops Q rest a H
  | some o=>if Region.wanted o (yielded ops a.tmps) then OpW P nr o a (Ops P nr ops Q rest) H else Ops P nr ops Q rest (put a o.dst undef) H
theorem ZfU (b:Frame)(a:Act)(ops:Array Oper)(i:Nat)(rest:List Nat)(k:List Item)(v:Value) :
  (on b a (.inRegion ops (i :: rest) :: k)).finish v=on b (put a ((ops[i]?).bind (·.dst)) v) (.inRegion ops rest :: k):=by
 cases h:(ops[i]?).bind (·.dst)<;>simp[Frame.finish,on,put,h]
theorem on_eval (b:Frame)(a:Act)(todo:List Item):(on b a todo).eval=a.eval:=by
 funext x;cases x<;>rfl
theorem Zfh {P:Program}{b:Frame}{a:Act}{k:List Item}{cs:List Frame}{ops:Array Oper}{i:Nat}{rest:List Nat}{o:Oper}{main:Bool}{w:World}(ho:ops[i]? = some o)(hw:Region.wanted o (yielded ops a.tmps)=true)
  (hd:∀ c,o.op=.defer c->b.roundOf=none) :
  stepG P main (gor (on b a (.inRegion ops (i :: rest) :: k)) cs) w=stepG.apply P true (on b a (.inRegion ops (i :: rest) :: k)) cs none (execOp a.eval o) w:=by
 have he:=on_eval b a (.inRegion ops (i :: rest) :: k)
 simp only[on]at he
 simp only[on,stepG,stepG.exec,ho,Option.map_some,Option.getD_some,hw,if_true,stepG.oper,Frame.oper?,he]
 split
 ·rename_i l c hl hop
  rw[hd c hop]at hl;simp at hl
 ·rfl
end Go.LL
end
section
namespace Go.LL
section ops
variable  {P:Prg}{Q:Ex->Act->Hp->Prop}{b:Frame}{a:Act}{k:List Item}{cs:List Frame}{H:Hp}{ops:Array Oper}{G:Frame->List Frame->Hp->Prop}
theorem Zgg (hb:b.kind≠.early):(b.kind == CallKind.early)=false:=by
 cases h:b.kind<;>simp_all<;>rfl
theorem reach_op {nr:Bool}(hnr:nr=true->norace P b.fn=true){i:Nat}{rest:List Nat}{o:Oper}{next:Act->Hp->Prop}(hcl:Zdq G)(hb:b.kind≠.early)(ho:ops[i]? = some o)(hw:Region.wanted o (yielded ops a.tmps)=true)(hd:∀ c,o.op=.defer c->b.roundOf=none)
  (h:OpW P nr o a next H) (hn:∀ a H,next a H->Reach P G (on b a (.inRegion ops rest :: k)) cs H):Reach P G (on b a (.inRegion ops (i :: rest) :: k)) cs H:=by
 have hkd:((on b a (.inRegion ops (i :: rest) :: k)).kind == CallKind.early)=false:=Zgg hb
 have hwk:Zb7 P o=true->∀ cs,mayWake P (gor (on b a (.inRegion ops (i :: rest) :: k)) cs)=true:=by
  intro hwo cs
  unfold Zb7 at hwo
  simp only[mayWake,on,ho,Option.map_some]
  split at hwo
  ·rename_i h';simp only[h'];simpa[Frame.eval]using hwo
  ·simp at hwo
  ·rename_i c h1 h2 h'
   simp only[h']
  ·simp at hwo
 have hfin:∀ v,(on b a (.inRegion ops (i :: rest) :: k)).finish v=on b (put a o.dst v) (.inRegion ops rest :: k):=by
  intro v;rw[ZfU,ho];rfl
 rcases h with h | h
 case inr=>
  refine h G _ (fun v=>on b (put a o.dst v) (.inRegion ops rest :: k)) cs hcl ⟨fun main cs w w' v es e1=>?_,.inr fun main cs w es e1=>?_,.inr fun main cs w w' f c as es e1=>?_,hwk,hnr⟩ fun v H' hv=>hn _ _ hv
  ·rw[Zfh ho hw hd,<-hfin]
   simp only[stepG.apply,e1,if_true,hkd,Bool.false_eq_true,if_false,GStep.after,Array.append_empty]
  ·rw[Zfh ho hw hd]
   simp only[stepG.apply,e1,if_true,hkd,Bool.false_eq_true,if_false,GStep.after,Array.append_empty]
   rfl
  ·rw[Zfh ho hw hd,<-hfin]
   simp only[stepG.apply,e1,if_true,hkd,Bool.false_eq_true,if_false,GStep.after,Array.append_empty]
   rw[if_neg (by simp)]
   simp only[Array.append_empty]
 refine .sem h ?_
 intro n H0 h0
 have hQ:∀ {H'},(false=true∨Upon P o.dst a next n H')->Upon P o.dst a next n H':=fun h=>h.resolve_left (by simp)
 have hg:=fun main w=>Zfh (P:=P) (b:=b) (k:=k) (cs:=cs) (w:=w) (rest:=rest) (main:=main) ho hw hd
 cases n with
 | value v=>exact⟨_,_,fun main w w' es e1=>⟨_,by rw[hg];simp only[stepG.apply,e1,if_true,hkd,Bool.false_eq_true,if_false,GStep.after,Array.append_empty];rfl,.inr rfl⟩,fun H' e3=>by rw[hfin];exact hn _ _ (hQ e3)⟩
 | skip=>exact⟨_,_,fun main w w' es e1=>⟨_,by rw[hg];simp only[stepG.apply,e1,if_true,hkd,Bool.false_eq_true,if_false,GStep.after,Array.append_empty];rfl,.inr rfl⟩,fun H' e3=>by rw[hfin];exact hn _ _ (hQ e3)⟩
 | defer d=>
  refine⟨_,_,fun main w w' es e1=>⟨_,by rw[hg];simp only[stepG.apply,e1,if_true,hkd,Bool.false_eq_true,if_false,GStep.after,Array.append_empty];rfl,.inr rfl⟩,fun H' e3=>?_⟩
  have:({ on b a (.inRegion ops (i :: rest) :: k) with defers:=d :: a.defers }:Frame).finish undef =
    on b (put { a with defers:=d :: a.defers } o.dst undef) (.inRegion ops rest :: k):=by
   have:=ZfU b { a with defers:=d :: a.defers } ops i rest k undef
   rw[ho]at this;exact this
  have h2:=hn _ _ (hQ e3)
  rw[<-this]at h2
  exact h2
 | enter f args=>exact⟨_,_,fun main w w' es e1=>⟨_,by rw[hg];simp only[stepG.apply,e1,if_true,hkd,Bool.false_eq_true,if_false,GStep.after,Array.append_empty];rfl,.inr rfl⟩,fun H' e3=>hQ e3 G _ cs hcl fun v H'' hv=>by rw[hfin];exact hn _ _ hv⟩
 | round l f tmps assign body=>exact⟨_,_,fun main w w' es e1=>⟨_,by rw[hg];simp only[stepG.apply,e1,if_true,hkd,Bool.false_eq_true,if_false,GStep.after,Array.append_empty];rfl,.inr rfl⟩,fun H' e3=>hQ e3 G _ cs hcl fun v H'' hv=>by rw[hfin];exact hn _ _ hv⟩
 | _=>exact(hQ h0).elim
theorem ZgO {i:Nat}{rest:List Nat}(h:((ops[i]?).map (Region.wanted · (yielded ops a.tmps))).getD false=false)
  (hn:Reach P G (on b (put a ((ops[i]?).bind (·.dst)) undef) (.inRegion ops rest :: k)) cs H):Reach P G (on b a (.inRegion ops (i :: rest) :: k)) cs H:=by
 rw[<-ZfU]at hn
 refine .pure (fun main w=>?_) hn
 have h':=h
 simp only[on]at *
 simp[stepG,stepG.exec,h']
def ZeG (ops:Array Oper):Bool:=ops.all fun o=>match o.op with | .defer _=>false | _=>true
theorem Zih {nr:Bool}(hnr:nr=true->norace P b.fn=true)(hcl:Zdq G)(hb:b.kind≠.early)(hd:b.roundOf=none∨ZeG ops=true){R:Act->Hp->Prop}(hn:∀ a H,R a H->Reach P G (on b a k) cs H) :
  ∀ (l:List Nat) (a:Act) (H:Hp),Ops P nr ops R l a H->Reach P G (on b a (.inRegion ops l :: k)) cs H:=by
 intro l
 induction l with
 | nil=>exact fun a H h=>.pure (fun main w=>by simp[stepG,stepG.exec,on]) (hn _ _ h)
 | cons i rest ih=>
  intro a H h
  simp only[Ops]at h
  cases ho:ops[i]? with
  | none=>
   simp only[ho]at h
   exact ZgO (by simp[ho]) (by simpa[ho,put]using ih a H h)
  | some o=>
   simp only[ho]at h
   by_cases hw:Region.wanted o (yielded ops a.tmps)=true
   ·simp only[hw,if_true]at h
    refine reach_op hnr hcl hb ho hw ?_ h ih
    intro c hc
    rcases hd with hd | hd
    ·exact hd
    ·exfalso
     have:=Array.all_eq_true.1 hd i (by rcases Nat.lt_or_ge i ops.size with h | h;exact h;simp[Array.getElem?_eq_none h]at ho)
     have hoi:ops[i]'(by rcases Nat.lt_or_ge i ops.size with h | h;exact h;simp[Array.getElem?_eq_none h]at ho)=o:=by
      have:=Array.getElem?_eq_some_iff.1 ho
      exact this.2
     rw[hoi,hc]at this
     simp at this
   ·simp only[hw]at h
    exact ZgO (by simp[ho,hw]) (by simpa[ho]using ih _ H h)
end ops
section regions
variable  {P:Prg}{rd:Rd}{Q:Ex->Act->Hp->Prop}{a:Act}{H:Hp}
theorem Tri.region {id:Nat}{ops:Array Oper}(hd:rd.top=true∨ZeG ops=true)(h:Ops P rd.nr ops (Q .normal) (List.range ops.size) a H):Tri P rd (.region id ops false) Q a H:=by
 intro G b k cs hcl hb hG
 refine .pure (fr':=on b a (.inRegion ops (List.range ops.size) :: k)) (cs':=cs) (fun main w=>by simp[stepG,stepG.exec,on]) ?_
 exact Zih hb.nr hcl hb.kind (hd.imp hb.top fun h=>h) (R:=Q .normal) (fun a H hq=>hG .normal a H hq) _ _ _ h
theorem Tri.draws {id:Nat}{ops:Array Oper}(hs:P.still H.gh=false)(hd:rd.top=true∨ZeG ops=true)(h:∀ t,Ops P rd.nr ops (Q .normal) (Region.schedule (P.follows .mixedOrders) ops t) a H):Tri P rd (.region id ops true) Q a H:=by
 intro G b k cs hcl hb hG
 refine .sem (s:=choose (.order b.fn id)) (Q:=fun t _ H'=>H'=H) ?_ ?_
 ·simp only[choose,wpL,Question.forced,Bool.false_eq_true,if_false]
  exact⟨hs,fun _=>trivial⟩
 ·intro t _ _
  refine⟨on b a (.inRegion ops (Region.schedule (P.follows .mixedOrders) ops t) :: k),cs,fun main w w' es e1=>⟨#[],?_,.inl rfl⟩,fun H' e3=>?_⟩
  ·have e6:(choose (.order b.fn id)).run P w=.ok t w':=by
    have:=congrArg Prod.fst e1
    rw[Sem.runT_eq]at this
    exact this
   simp[stepG,stepG.exec,on,e6]
  ·subst e3
   exact Zih hb.nr hcl hb.kind (hd.imp hb.top fun h=>h) (R:=Q .normal) (fun a H hq=>hG .normal a H hq) _ _ _ (h t)
end regions
theorem exec_ret {P:Prg}{b:Frame}{a:Act}{k:List Item}{cs:List Frame}{main:Bool}{w:World}(hr:b.roundOf=none) :
  stepG P main (gor (on b a (.code .ret :: k)) cs) w=.go (gor { on b a (.code .ret :: k) with mode:=.returning } cs) w:=by
 simp[stepG,stepG.exec,on,hr]
theorem exec_end {P:Prg}{b:Frame}{a:Act}{cs:List Frame}{main:Bool}{w:World}(hr:b.roundOf=none) :
  stepG P main (gor (on b a []) cs) w=.go (gor { on b a []with mode:=.returning } cs) w:=by
 simp[stepG,stepG.exec,on,hr]
end Go.LL
end
