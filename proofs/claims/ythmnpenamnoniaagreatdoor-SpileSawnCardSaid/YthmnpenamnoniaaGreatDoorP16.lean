import Derived.Test.YthmnpenamnoniaaGreatDoorP14
import Derived.Test.YthmnpenamnoniaaGreatDoorP15
set_option linter.all false
section
namespace Go.LL
open Go.Conc
open Go.ConcN (sumTo upd sumTo_upd upd_ne upd_same)
section
variable  {p:Program}{c:Cx}{i:Nat}{H:Hp}{s:Ts}{Hs:Hp}{t:Trace}{w:World}
theorem Zcb {b:Nat}{y:Obj×Bool}(h:mwH c s b=some y):(b=c.M∨b=c.W)∧y.2=true:=by
 by_cases h1:b=c.W
 ·subst h1;rw[Ziz]at h;exact⟨.inr rfl,by rw[<-Option.some.inj h]⟩
 ·by_cases h2:b=c.M
  ·refine⟨.inl h2,?_⟩
   unfold mwH at h
   rw[Hp.ins_other _ _ h1,h2,Hp.ins_same]at h
   rw[<-Option.some.inj h]
  ·rw[Zbo h2 h1]at h;simp at h
theorem ZeA (ok:c.Ok){Hl:Hp}(hc:(mwH c s).Comp Hl):Hl c.M=none∧Hl c.W=none:=⟨hc.right_none (Zjg ok.ne s),hc.right_none (Ziz c s)⟩
theorem Zed {j:Nat}{l:List Nat}{es:Array Event}{fn:FuncId}{pos:String}(h:∀ j,c.live s.next j->cd (s.tag j)≠0->Deaf t j=df (cd (s.tag j)))(hdeaf:cd l≠0->deafBehind (Deaf t i) es=df (cd l))(hj:c.live s.next j)(hcd:cd (upd s.tag i l j)≠0) :
  Deaf (t++MemOp.ofEvents i fn pos es) j=df (cd (upd s.tag i l j)):=by
 by_cases e:j=i
 ·subst e
  rw[upd_same]at hcd ⊢
  rw[Deaf_own]
  exact hdeaf hcd
 ·rw[upd_ne _ _ e]at hcd ⊢
  rw[Deaf_other t (Ne.symm e) _ fun op hop=>by obtain⟨e,_,rfl⟩:=Go.Conc.mem_ofEvents hop;rfl]
  exact h j hj hcd
theorem Zf5 (hA:Ahead (team p c) i H s Hs t w)(ht:s.tag i≠[0]):c.live s.next i:=by
 refine⟨hA.lt,?_⟩
 rcases Nat.eq_zero_or_pos i with h0 | h0
 ·exact .inl h0
 ·rcases Nat.lt_or_ge i c.base with h1 | h1
  ·exact absurd ((show CInv c s Hs t from hA.inv).cnt.olds i h0 h1) ht
  ·exact .inr h1
theorem core (ok:c.Ok)(hA:Ahead (team p c) i H s Hs t w)(hi:c.live s.next i){x':Mu}{y':Wg}{l:List Nat}{w':World}{es:Array Event}
  (hcnt:Cnt c { s with mu:=x',wg:=y',tag:=upd s.tag i l }) (hev:EvS c.toTC i (Deaf t i) es) (hlow:∀ e∈es,∀ B,c.M<B->c.W<B->(MemAct.ofEvent e).low B)
  (hdeaf:cd l≠0->deafBehind (Deaf t i) es=df (cd l)) (hnt:cd (s.tag i)≠12∧cd (s.tag i)≠40) (hnt':cd l≠12∧cd l≠40) (hz:cd (s.tag i)≠0) (hdone:20<=cd l∨cd l=0->Zcf s i)
  (hM:w'.heap[c.M]? = some (Zjh c x')) (hW:w'.heap[c.W]? = some (Zhl c y')) (hoth:∀ b,b≠c.M->b≠c.W->w'.heap[b]? = w.heap[b]?) (hsz:w'.heap.size=w.heap.size) (hout:Out w w') :
  ∃ Hs',∀ fn pos,Meets (team p c) i s Hs t w H (MemOp.ofEvents i fn pos es) { s with mu:=x',wg:=y',tag:=upd s.tag i l } Hs' w'∧Gets i Hs w H (t++MemOp.ofEvents i fn pos es) Hs' w' (H.tagged l):=by
 have hI:CInv c s Hs t:=hA.inv
 have aM:=hI.atM ok
 have aW:=hI.atW
 let s':Ts:={ s with mu:=x',wg:=y',tag:=upd s.tag i l }
 have htk:Zeo s'↔Zeo s:=by
  constructor
  ·rintro⟨j,h1,h2⟩
   by_cases e:j=i
   ·subst e;simp only[s',upd_same]at h2;omega
   ·simp only[s',upd_ne _ _ e]at h2;exact⟨j,h1,h2⟩
  ·rintro⟨j,h1,h2⟩
   by_cases e:j=i
   ·subst e;omega
   ·exact⟨j,h1,by simp only[s',upd_ne _ _ e];exact h2⟩
 have hHM:H c.M=none:=by
  cases hh:H c.M with
  | none=>rfl
  | some y=>have:=hA.dis c.M _ _ hh aM;rw[this.1]at this;simp at this
 have hHW:H c.W=none:=by
  cases hh:H c.W with
  | none=>rfl
  | some y=>have:=hA.dis c.W _ _ hh aW;rw[this.1]at this;simp at this
 have hpool:∃ Hs':Hp,((Zeo s'∧Hs'=mwH c s')∨(¬ Zeo s'∧∃ Hl:Hp,Hs'=(mwH c s').join Hl∧(mwH c s').Comp Hl∧c.PI s'.log Hl))∧(∀ b,b≠c.M->b≠c.W->Hs' b=Hs b)∧Hs' c.M=some (Zjh c x',true)∧Hs' c.W=some (Zhl c y',true):=by
  rcases hI.heap with ⟨h1,h2⟩ | ⟨h1,Hl,h2,h3,h4⟩
  ·refine⟨mwH c s',.inl ⟨htk.2 h1,rfl⟩,fun b b1 b2=>?_,Zjg ok.ne s',Ziz c s'⟩
   rw[h2,Zbo b1 b2,Zbo b1 b2]
  ·obtain⟨p1,p2⟩:=ZeA ok h3
   refine⟨(mwH c s').join Hl,.inr ⟨fun h=>h1 (htk.1 h),Hl,rfl,⟨fun b y z hy hz=>?_,by left;rfl⟩,h4⟩,fun b b1 b2=>?_,Hp.join_left (Zjg ok.ne s'),Hp.join_left (Ziz c s')⟩
   ·rcases(Zcb hy).1 with rfl | rfl
    ·rw[p1]at hz;simp at hz
    ·rw[p2]at hz;simp at hz
   ·rw[h2]
    simp only[Hp.join_at,Zbo b1 b2]
 obtain⟨Hs',hheap,hsame,sM,sW⟩:=hpool
 have hlt:c.M<w.heap.size∧c.W<w.heap.size:=⟨hA.leS.lt aM,hA.leS.lt aW⟩
 have hleS:Hs'.le w':=by
  intro b o pm hb
  by_cases b1:b=c.M
  ·subst b1;rw[sM]at hb;rw[hM];simp only[Option.some.injEq,Prod.mk.injEq]at hb;rw[hb.1]
  ·by_cases b2:b=c.W
   ·subst b2;rw[sW]at hb;rw[hW];simp only[Option.some.injEq,Prod.mk.injEq]at hb;rw[hb.1]
   ·rw[hsame b b1 b2]at hb
    rw[hoth b b1 b2]
    exact hA.leS b o pm hb
 have hle:(H.tagged l).le w':=by
  intro b o pm hb
  have b1:b≠c.M:=by rintro rfl;rw[Hp.tagged_at,hHM]at hb;simp at hb
  have b2:b≠c.W:=by rintro rfl;rw[Hp.tagged_at,hHW]at hb;simp at hb
  rw[hoth b b1 b2]
  exact hA.le b o pm hb
 have hdis:(H.tagged l).Dis Hs':=by
  intro b x y hx hy
  have b1:b≠c.M:=by rintro rfl;rw[Hp.tagged_at,hHM]at hx;simp at hx
  have b2:b≠c.W:=by rintro rfl;rw[Hp.tagged_at,hHW]at hx;simp at hx
  rw[hsame b b1 b2]at hy
  exact hA.dis b x y hx hy
 have hsh:∀ {op:MemOp} {fn pos},op∈MemOp.ofEvents i fn pos es->∀ a,op.act.touch? = some a->a.loc.isMemory=true->c.toTC.Sh a.loc∧a.kind≠.plain∧(a.kind=.said->i=0):=by
  intro op fn pos hop a ha hm
  obtain⟨e,he,rfl⟩:=Go.Conc.mem_ofEvents hop
  obtain⟨k,hk,hke⟩:=Array.mem_iff_getElem.1 he
  obtain⟨h1,h2,h3,_⟩:=(hev k e (by rw[Array.getElem?_eq_getElem hk,hke])).2 a ha hm
  exact⟨h1,h2,h3⟩
 refine⟨Hs',fun fn pos=>⟨⟨by rw[hsz];exact Nat.le_refl _,?_,hleS,?_,hout,?_,?_,?_,?_⟩,hle,hdis,?_,?_⟩⟩
 ·intro b _ _ hn
  exact hoth b (by rintro rfl;exact hn _ aM) (by rintro rfl;exact hn _ aW)
 ·intro b x hx
  refine .inr ?_
  by_cases b1:b=c.M
  ·subst b1;exact⟨_,.inr aM,fun h=>by simp at h⟩
  ·by_cases b2:b=c.W
   ·subst b2;exact⟨_,.inr aW,fun h=>by simp at h⟩
   ·rw[hsame b b1 b2]at hx
    exact⟨x,.inr hx,fun _=>rfl⟩
 ·intro op hop x hx b hb
  obtain⟨⟨b',hb',h⟩,_⟩:=hsh hop x hx (ZmS hb)
  rw[hb]at hb'
  obtain rfl:=Option.some.inj hb'
  refine .inl ?_
  rcases h with rfl | rfl
  ·exact⟨_,true,.inr aM,fun _=>rfl⟩
  ·exact⟨_,true,.inr aW,fun _=>rfl⟩
 ·intro said q a ha op hop b hb hc
  have hmb:b.loc.isMemory=true:=by rw[<-hc.1];exact hc.2.1
  obtain⟨h1,h2,h3⟩:=hsh hop b hb hmb
  exact hI.tr.known hi h1 h2 h3 ha hc
 ·intro op hop
  obtain⟨e,he,rfl⟩:=Go.Conc.mem_ofEvents hop
  rw[hsz]
  exact hlow e he _ hlt.1 hlt.2
 ·refine⟨hcnt,?_,fun j hj hcd=>Zed hI.deaf hdeaf hj hcd,fun h40=>?_,hheap⟩
  rotate_left
  ·exfalso
   rcases hi.2 with h0 | h0
   ·subst h0;simp only[upd_same]at h40;omega
   ·have:i≠0:=by have:=hI.cnt.pos;omega
    simp only[upd_ne _ _ (Ne.symm this)]at h40
    rw[hI.cnt.over (by omega) h0 hi.1]at hz
    exact hz rfl
  refine(hI.tr.evs hi (fun b hb=>hb.2) hev).sub (fun j hj=>?_) (fun b hb=>?_)
  ·unfold Zcf at hj
   simp only at hj
   by_cases e:j=i
   ·subst e;rw[upd_same]at hj;exact hdone hj
   ·rw[upd_ne _ _ e]at hj;exact hj
  ·obtain⟨⟨x,hx⟩,b1,b2⟩:=hb
   rw[hsame b b1 b2]at hx
   exact⟨⟨x,hx⟩,b1,b2⟩
 ·exact fun b x hx=>.inr ⟨x,.inl hx,fun _=>rfl⟩
 ·have:PermH (t++MemOp.ofEvents i fn pos es) i H:=hA.perm.own fun op hop=>.inl (by obtain⟨e,_,rfl⟩:=Go.Conc.mem_ofEvents hop;rfl)
  exact this
theorem ZbF {P:Program}{main:Bool}{fr:Frame}{nx:Value->Frame}{cs:List Frame}{sm:Sem Next}{wk nr:Bool}(ha:Zhh P fr nx sm wk nr){v:Value}{w w':World}{es0:Array Event}(hr:sm.runT P w #[]=(.ok (.value v) w',es0)) :
  stepG P main (gor fr cs) w=.go (gor (nx v) cs) w' (seen P fr.fn es0):=ha.val _ _ _ _ _ _ hr
theorem Zc5 {P:Program}{main:Bool}{fr:Frame}{nx:Value->Frame}{cs:List Frame}{sm:Sem Next}{wk nr:Bool}(ha:Zhh P fr nx sm wk nr){w:World}{es0:Array Event}(hr:sm.runT P w #[]=(.halt .blocked w,es0)) :
  stepG P main (gor fr cs) w=.go (blk fr cs) w #[]:=by
 rcases ha.halt with h | h
 ·obtain⟨v,w',es,e⟩:=h w
  rw[hr]at e
  simp at e
 ·exact h _ _ _ _ hr
end
end Go.LL
end
section
namespace Go.LL
theorem ZlX {G:Prop} (h:G:=by
  have g1:1<=Ct Zaq tag k:=cl hi hc Zaq
  refine⟨⟨?_,?_,?_,?_,?_,?_⟩,?_⟩<;>(try unfold Mu.mu)<;>(try dsimp only)<;>omega):G:=h
theorem qLlMb7 {G:Prop} (h:G:=by
  have e4:Ct cU (upd tag i l) k+0=Ct cU tag k+0:=ct hi hc hl cU
  have e5:Ct cR (upd tag i l) k+0=Ct cR tag k+0:=ct hi hc hl cR
  have e6:Ct pot (upd tag i l) k+5=Ct pot tag k+5:=ct hi hc hl pot
  have g4:1<=Ct cA tag k:=cl hi hc cA
  refine⟨⟨?_,?_,?_,?_,?_,?_⟩,?_⟩<;>(try unfold Mu.mu)<;>(try dsimp only)<;>omega):G:=h
theorem qLlMb6 {G:Prop} (h:G:=by
  obtain⟨f1,f2,f3,f4,f5,f6⟩:=F
  have e0:Ct Zaq (upd tag i l) k+0=Ct Zaq tag k+0:=ct hi hc hl Zaq
  have e1:Ct cT (upd tag i l) k+0=Ct cT tag k+0:=ct hi hc hl cT
  have e2:Ct cQ (upd tag i l) k+0=Ct cQ tag k+0:=ct hi hc hl cQ
  have e3:Ct cA (upd tag i l) k+0=Ct cA tag k+0:=ct hi hc hl cA
  have e4:Ct cU (upd tag i l) k+1=Ct cU tag k+1:=ct hi hc hl cU
  have e5:Ct cR (upd tag i l) k+0=Ct cR tag k+0:=ct hi hc hl cR
  have e6:Ct pot (upd tag i l) k+2=Ct pot tag k+2:=ct hi hc hl pot
  have g5:1<=Ct cU tag k:=cl hi hc cU
  refine⟨⟨?_,?_,?_,?_,?_,?_⟩,?_⟩<;>(try unfold Mu.mu)<;>(try dsimp only)<;>omega):G:=h
theorem qLlMb5 {G:Prop} (h:G:=by
  obtain⟨f1,f2,f3,f4,f5,f6⟩:=F
  have e0:Ct Zaq (upd tag i l) k+0=Ct Zaq tag k+0:=ct hi hc hl Zaq
  have e1:Ct cT (upd tag i l) k+1=Ct cT tag k+1:=ct hi hc hl cT
  have e2:Ct cQ (upd tag i l) k+0=Ct cQ tag k+0:=ct hi hc hl cQ
  have e3:Ct cA (upd tag i l) k+0=Ct cA tag k+0:=ct hi hc hl cA
  have e4:Ct cU (upd tag i l) k+0=Ct cU tag k+0:=ct hi hc hl cU
  have e5:Ct cR (upd tag i l) k+0=Ct cR tag k+0:=ct hi hc hl cR
  have e6:Ct pot (upd tag i l) k+5=Ct pot tag k+5:=ct hi hc hl pot
  have g2:1<=Ct cT tag k:=cl hi hc cT
  refine⟨⟨?_,?_,?_,?_,?_,?_⟩,?_⟩<;>(try unfold Mu.mu)<;>(try dsimp only)<;>omega):G:=h
theorem qLlMb4 {G:Prop} (h:G:=by
  obtain⟨f1,f2,f3,f4,f5,f6⟩:=F
  have e0:Ct Zaq (upd tag i l) k+0=Ct Zaq tag k+1:=ct hi hc hl Zaq
  have e1:Ct cT (upd tag i l) k+0=Ct cT tag k+0:=ct hi hc hl cT
  have e2:Ct cQ (upd tag i l) k+0=Ct cQ tag k+0:=ct hi hc hl cQ
  have e3:Ct cA (upd tag i l) k+1=Ct cA tag k+0:=ct hi hc hl cA
  have e4:Ct cU (upd tag i l) k+0=Ct cU tag k+0:=ct hi hc hl cU
  have e5:Ct cR (upd tag i l) k+0=Ct cR tag k+0:=ct hi hc hl cR
  have e6:Ct pot (upd tag i l) k+5=Ct pot tag k+3:=ct hi hc hl pot
  have g4:1<=Ct cA tag k:=cl hi hc cA
  refine⟨⟨?_,?_,?_,?_,?_,?_⟩,?_⟩<;>(try unfold Mu.mu)<;>(try dsimp only)<;>omega):G:=h
theorem qLlMb3 {G:Prop} (h:G:=by
  obtain⟨f1,f2,f3,f4,f5,f6⟩:=F
  have e0:Ct Zaq (upd tag i l) k+0=Ct Zaq tag k+0:=ct hi hc hl Zaq
  have e1:Ct cT (upd tag i l) k+1=Ct cT tag k+0:=ct hi hc hl cT
  have e2:Ct cQ (upd tag i l) k+0=Ct cQ tag k+1:=ct hi hc hl cQ
  have e3:Ct cA (upd tag i l) k+0=Ct cA tag k+0:=ct hi hc hl cA
  have e4:Ct cU (upd tag i l) k+0=Ct cU tag k+0:=ct hi hc hl cU
  have e5:Ct cR (upd tag i l) k+0=Ct cR tag k+0:=ct hi hc hl cR
  have e6:Ct pot (upd tag i l) k+5=Ct pot tag k+4:=ct hi hc hl pot
  have g2:1<=Ct cT tag k:=cl hi hc cT
  refine⟨⟨?_,?_,?_,?_,?_,?_⟩,?_⟩<;>(try unfold Mu.mu)<;>(try dsimp only)<;>omega):G:=h
theorem ZjX {G:Prop} (h:G:=by
  obtain⟨f1,f2,f3,f4,f5,f6⟩:=F
  have e0:Ct Zaq (upd tag i l) k+0=Ct Zaq tag k+0:=ct hi hc hl Zaq
  have e1:Ct cT (upd tag i l) k+0=Ct cT tag k+0:=ct hi hc hl cT
  have e2:Ct cQ (upd tag i l) k+0=Ct cQ tag k+0:=ct hi hc hl cQ
  have e3:Ct cA (upd tag i l) k+0=Ct cA tag k+0:=ct hi hc hl cA
  have e4:Ct cU (upd tag i l) k+0=Ct cU tag k+0:=ct hi hc hl cU
  have e5:Ct cR (upd tag i l) k+0=Ct cR tag k+0:=ct hi hc hl cR
  have e6:Ct pot (upd tag i l) k+6=Ct pot tag k+6:=ct hi hc hl pot
  refine⟨⟨?_,?_,?_,?_,?_,?_⟩,?_⟩<;>(try unfold Mu.mu)<;>(try dsimp only)<;>omega):G:=h
theorem ZjY {G:Prop} (h:G:=by
  obtain⟨f1,f2,f3,f4,f5,f6⟩:=F
  have e0:Ct Zaq (upd tag i l) k+1=Ct Zaq tag k+1:=ct hi hc hl Zaq
  have e1:Ct cT (upd tag i l) k+0=Ct cT tag k+0:=ct hi hc hl cT
  have e2:Ct cQ (upd tag i l) k+0=Ct cQ tag k+0:=ct hi hc hl cQ
  have e3:Ct cA (upd tag i l) k+0=Ct cA tag k+0:=ct hi hc hl cA
  have e4:Ct cU (upd tag i l) k+0=Ct cU tag k+0:=ct hi hc hl cU
  have e5:Ct cR (upd tag i l) k+0=Ct cR tag k+0:=ct hi hc hl cR
  have e6:Ct pot (upd tag i l) k+3=Ct pot tag k+3:=ct hi hc hl pot
  have g1:1<=Ct Zaq tag k:=cl hi hc Zaq
  refine⟨⟨?_,?_,?_,?_,?_,?_⟩,?_⟩<;>(try unfold Mu.mu)<;>(try dsimp only)<;>omega):G:=h
theorem ZeZ {G:Prop} (h:G:=by
  obtain⟨f1,f2,f3,f4,f5,f6⟩:=F
  have e0:Ct Zaq (upd tag i l) k+0=Ct Zaq tag k+0:=ct hi hc hl Zaq
  have e1:Ct cT (upd tag i l) k+0=Ct cT tag k+0:=ct hi hc hl cT
  have e2:Ct cQ (upd tag i l) k+0=Ct cQ tag k+0:=ct hi hc hl cQ
  have e3:Ct cA (upd tag i l) k+0=Ct cA tag k+0:=ct hi hc hl cA
  have e4:Ct cU (upd tag i l) k+0=Ct cU tag k+0:=ct hi hc hl cU
  have e5:Ct cR (upd tag i l) k+0=Ct cR tag k+0:=ct hi hc hl cR
  have e6:Ct pot (upd tag i l) k+0=Ct pot tag k+0:=ct hi hc hl pot
  refine⟨⟨?_,?_,?_,?_,?_,?_⟩,?_⟩<;>(try unfold Mu.mu)<;>(try dsimp only)<;>omega):G:=h
open Go.ConcN (sumTo upd sumTo_upd upd_ne upd_same)
section
variable  {x:Mu}{tag:Nat->List Nat}{k i more:Nat}{l:List Nat}
theorem Mu.fast (F:x.Fits tag k)(hi:i<k)(hc:cd (tag i)=2)(hl:cd l=10)(h:x.st=0):Mu.Fits { x with L:=1 } (upd tag i l) k∧Mu.mu { x with L:=1 } more (upd tag i l) k+6=x.mu more tag k+3:=by
 obtain⟨f1,f2,f3,f4,f5,f6⟩:=F
 have e0:Ct Zaq (upd tag i l) k+0=Ct Zaq tag k+1:=ct hi hc hl Zaq
 have e1:Ct cT (upd tag i l) k+0=Ct cT tag k+0:=ct hi hc hl cT
 have e2:Ct cQ (upd tag i l) k+0=Ct cQ tag k+0:=ct hi hc hl cQ
 have e3:Ct cA (upd tag i l) k+0=Ct cA tag k+0:=ct hi hc hl cA
 have e4:Ct cU (upd tag i l) k+0=Ct cU tag k+0:=ct hi hc hl cU
 have e5:Ct cR (upd tag i l) k+0=Ct cR tag k+0:=ct hi hc hl cR
 have e6:Ct pot (upd tag i l) k+6=Ct pot tag k+3:=ct hi hc hl pot
 unfold Mu.st at h
 refine⟨⟨?_,?_,?_,?_,?_,?_⟩,?_⟩<;>(try unfold Mu.mu)<;>(try dsimp only)<;>omega
theorem Mu.spin (F:x.Fits tag k)(hi:i<k)(hc:cd (tag i)=4)(hl:cd l=5)(h:x.W=0)(h2:x.S=0):Mu.Fits { x with W:=1 } (upd tag i l) k∧Mu.mu { x with W:=1 } more (upd tag i l) k+6=x.mu more tag k+5:=by
 obtain⟨f1,f2,f3,f4,f5,f6⟩:=F
 have e0:Ct Zaq (upd tag i l) k+0=Ct Zaq tag k+0:=ct hi hc hl Zaq
 have e1:Ct cT (upd tag i l) k+0=Ct cT tag k+1:=ct hi hc hl cT
 have e2:Ct cQ (upd tag i l) k+0=Ct cQ tag k+0:=ct hi hc hl cQ
 have e3:Ct cA (upd tag i l) k+0=Ct cA tag k+0:=ct hi hc hl cA
 have e4:Ct cU (upd tag i l) k+0=Ct cU tag k+0:=ct hi hc hl cU
 have e5:Ct cR (upd tag i l) k+0=Ct cR tag k+0:=ct hi hc hl cR
 have e6:Ct pot (upd tag i l) k+6=Ct pot tag k+5:=ct hi hc hl pot
 refine⟨⟨?_,?_,?_,?_,?_,?_⟩,?_⟩<;>(try unfold Mu.mu)<;>(try dsimp only)<;>omega
theorem Mu.take4 (F:x.Fits tag k)(hi:i<k)(hc:cd (tag i)=4)(hl:cd l=10)(h:x.L=0)(h2:x.S=0):Mu.Fits { x with L:=1 } (upd tag i l) k∧Mu.mu { x with L:=1 } more (upd tag i l) k+6=x.mu more tag k+3:=by
 obtain⟨f1,f2,f3,f4,f5,f6⟩:=F
 have e0:Ct Zaq (upd tag i l) k+0=Ct Zaq tag k+1:=ct hi hc hl Zaq
 have e1:Ct cT (upd tag i l) k+0=Ct cT tag k+0:=ct hi hc hl cT
 have e2:Ct cQ (upd tag i l) k+0=Ct cQ tag k+0:=ct hi hc hl cQ
 have e3:Ct cA (upd tag i l) k+0=Ct cA tag k+0:=ct hi hc hl cA
 have e4:Ct cU (upd tag i l) k+0=Ct cU tag k+0:=ct hi hc hl cU
 have e5:Ct cR (upd tag i l) k+0=Ct cR tag k+0:=ct hi hc hl cR
 have e6:Ct pot (upd tag i l) k+6=Ct pot tag k+3:=ct hi hc hl pot
 refine⟨⟨?_,?_,?_,?_,?_,?_⟩,?_⟩<;>(try unfold Mu.mu)<;>(try dsimp only)<;>omega
theorem Mu.take6 (F:x.Fits tag k)(hi:i<k)(hc:cd (tag i)=6)(hl:cd l=10)(h:x.L=0)(h2:x.S=0):Mu.Fits { x with L:=1,W:=0 } (upd tag i l) k∧Mu.mu { x with L:=1,W:=0 } more (upd tag i l) k+5=x.mu more tag k+3:=by
 obtain⟨f1,f2,f3,f4,f5,f6⟩:=F
 have e0:Ct Zaq (upd tag i l) k+0=Ct Zaq tag k+1:=ct hi hc hl Zaq
 have e1:Ct cT (upd tag i l) k+1=Ct cT tag k+0:=ct hi hc hl cT
 have e2:Ct cQ (upd tag i l) k+0=Ct cQ tag k+0:=ct hi hc hl cQ
 have e3:Ct cA (upd tag i l) k+0=Ct cA tag k+0:=ct hi hc hl cA
 have e4:Ct cU (upd tag i l) k+0=Ct cU tag k+0:=ct hi hc hl cU
 have e5:Ct cR (upd tag i l) k+0=Ct cR tag k+0:=ct hi hc hl cR
 have e6:Ct pot (upd tag i l) k+5=Ct pot tag k+3:=ct hi hc hl pot
 have g2:1<=Ct cT tag k:=cl hi hc cT
 refine⟨⟨?_,?_,?_,?_,?_,?_⟩,?_⟩<;>(try unfold Mu.mu)<;>(try dsimp only)<;>omega
theorem Mu.queue4 (F:x.Fits tag k)(hi:i<k)(hc:cd (tag i)=4)(hl:cd l=7)(h:x.L=1∨x.S=1):Mu.Fits { x with n:=x.n+1 } (upd tag i l) k∧Mu.mu { x with n:=x.n+1 } more (upd tag i l) k+6=x.mu more tag k+4:=by
 obtain⟨f1,f2,f3,f4,f5,f6⟩:=F
 have e0:Ct Zaq (upd tag i l) k+0=Ct Zaq tag k+0:=ct hi hc hl Zaq
 have e1:Ct cT (upd tag i l) k+0=Ct cT tag k+0:=ct hi hc hl cT
 have e2:Ct cQ (upd tag i l) k+0=Ct cQ tag k+1:=ct hi hc hl cQ
 have e3:Ct cA (upd tag i l) k+0=Ct cA tag k+0:=ct hi hc hl cA
 have e4:Ct cU (upd tag i l) k+0=Ct cU tag k+0:=ct hi hc hl cU
 have e5:Ct cR (upd tag i l) k+0=Ct cR tag k+0:=ct hi hc hl cR
 have e6:Ct pot (upd tag i l) k+6=Ct pot tag k+4:=ct hi hc hl pot
 refine⟨⟨?_,?_,?_,?_,?_,?_⟩,?_⟩<;>(try unfold Mu.mu)<;>(try dsimp only)<;>omega
theorem Mu.queue6 (F:x.Fits tag k)(hi:i<k)(hc:cd (tag i)=6)(hl:cd l=7)(h:x.L=1):Mu.Fits { x with n:=x.n+1,W:=0 } (upd tag i l) k∧Mu.mu { x with n:=x.n+1,W:=0 } more (upd tag i l) k+5=x.mu more tag k+4:=by
 exact qLlMb3
theorem Mu.queue6s (F:x.Fits tag k)(hi:i<k)(hc:cd (tag i)=6)(hl:cd l=7)(h:x.L=1):Mu.Fits { x with n:=x.n+1,W:=0,S:=1 } (upd tag i l) k∧Mu.mu { x with n:=x.n+1,W:=0,S:=1 } more (upd tag i l) k+5=x.mu more tag k+4:=by
 exact qLlMb3
theorem Mu.semacq (F:x.Fits tag k)(hi:i<k)(hc:cd (tag i)=7)(hl:cd l=8)(h:0<x.sm):Mu.Fits { x with sm:=x.sm-1 } (upd tag i l) k∧Mu.mu { x with sm:=x.sm-1 } more (upd tag i l) k+5=x.mu more tag k+5:=by
 obtain⟨f1,f2,f3,f4,f5,f6⟩:=F
 have e0:Ct Zaq (upd tag i l) k+0=Ct Zaq tag k+0:=ct hi hc hl Zaq
 have e1:Ct cT (upd tag i l) k+0=Ct cT tag k+0:=ct hi hc hl cT
 have e2:Ct cQ (upd tag i l) k+1=Ct cQ tag k+0:=ct hi hc hl cQ
 have e3:Ct cA (upd tag i l) k+0=Ct cA tag k+1:=ct hi hc hl cA
 have e4:Ct cU (upd tag i l) k+0=Ct cU tag k+0:=ct hi hc hl cU
 have e5:Ct cR (upd tag i l) k+0=Ct cR tag k+0:=ct hi hc hl cR
 have e6:Ct pot (upd tag i l) k+4=Ct pot tag k+5:=ct hi hc hl pot
 have g3:1<=Ct cQ tag k:=cl hi hc cQ
 refine⟨⟨?_,?_,?_,?_,?_,?_⟩,?_⟩<;>(try unfold Mu.mu)<;>(try dsimp only)<;>omega
theorem Mu.wake0 (F:x.Fits tag k)(hi:i<k)(hc:cd (tag i)=8)(hl:cd l=6)(h:x.S=0):Mu.Fits x (upd tag i l) k∧Mu.mu x more (upd tag i l) k+5=x.mu more tag k+5:=by
 obtain⟨f1,f2,f3,f4,f5,f6⟩:=F
 have e0:Ct Zaq (upd tag i l) k+0=Ct Zaq tag k+0:=ct hi hc hl Zaq
 have e1:Ct cT (upd tag i l) k+0=Ct cT tag k+1:=ct hi hc hl cT
 have e2:Ct cQ (upd tag i l) k+0=Ct cQ tag k+0:=ct hi hc hl cQ
 have e3:Ct cA (upd tag i l) k+1=Ct cA tag k+0:=ct hi hc hl cA
 exact qLlMb7
theorem Mu.wake1 (F:x.Fits tag k)(hi:i<k)(hc:cd (tag i)=8)(hl:cd l=9)(h:x.S=1):Mu.Fits x (upd tag i l) k∧Mu.mu x more (upd tag i l) k+5=x.mu more tag k+5:=by
 obtain⟨f1,f2,f3,f4,f5,f6⟩:=F
 have e0:Ct Zaq (upd tag i l) k+0=Ct Zaq tag k+0:=ct hi hc hl Zaq
 have e1:Ct cT (upd tag i l) k+0=Ct cT tag k+0:=ct hi hc hl cT
 have e2:Ct cQ (upd tag i l) k+0=Ct cQ tag k+0:=ct hi hc hl cQ
 have e3:Ct cA (upd tag i l) k+1=Ct cA tag k+1:=ct hi hc hl cA
 exact qLlMb7
theorem Mu.hand (F:x.Fits tag k)(hi:i<k)(hc:cd (tag i)=9)(hl:cd l=10)(h:x.S=1)(h2:2<=x.n):Mu.Fits { x with L:=1,n:=x.n-1 } (upd tag i l) k∧Mu.mu { x with L:=1,n:=x.n-1 } more (upd tag i l) k+5=x.mu more tag k+3:=by
 exact qLlMb4
theorem Mu.hand0 (F:x.Fits tag k)(hi:i<k)(hc:cd (tag i)=9)(hl:cd l=10)(h:x.S=1):Mu.Fits { x with L:=1,n:=x.n-1,S:=0 } (upd tag i l) k∧Mu.mu { x with L:=1,n:=x.n-1,S:=0 } more (upd tag i l) k+5=x.mu more tag k+3:=by
 exact qLlMb4
theorem Mu.unlock0 (F:x.Fits tag k)(hi:i<k)(hc:cd (tag i)=14)(hl:cd l=18)(h:x.S=0)(h2:x.n=0∨x.W=1):Mu.Fits { x with L:=0 } (upd tag i l) k∧Mu.mu { x with L:=0 } more (upd tag i l) k+3=x.mu more tag k+0:=by
 obtain⟨f1,f2,f3,f4,f5,f6⟩:=F
 have e0:Ct Zaq (upd tag i l) k+1=Ct Zaq tag k+0:=ct hi hc hl Zaq
 have e1:Ct cT (upd tag i l) k+0=Ct cT tag k+0:=ct hi hc hl cT
 have e2:Ct cQ (upd tag i l) k+0=Ct cQ tag k+0:=ct hi hc hl cQ
 have e3:Ct cA (upd tag i l) k+0=Ct cA tag k+0:=ct hi hc hl cA
 have e4:Ct cU (upd tag i l) k+0=Ct cU tag k+0:=ct hi hc hl cU
 have e5:Ct cR (upd tag i l) k+0=Ct cR tag k+0:=ct hi hc hl cR
 have e6:Ct pot (upd tag i l) k+3=Ct pot tag k+0:=ct hi hc hl pot
 exact ZlX
theorem Mu.unlockU (F:x.Fits tag k)(hi:i<k)(hc:cd (tag i)=14)(hl:cd l=15)(h:x.S=0):Mu.Fits { x with L:=0 } (upd tag i l) k∧Mu.mu { x with L:=0 } more (upd tag i l) k+3=x.mu more tag k+2:=by
 obtain⟨f1,f2,f3,f4,f5,f6⟩:=F
 have e0:Ct Zaq (upd tag i l) k+1=Ct Zaq tag k+0:=ct hi hc hl Zaq
 have e1:Ct cT (upd tag i l) k+0=Ct cT tag k+0:=ct hi hc hl cT
 have e2:Ct cQ (upd tag i l) k+0=Ct cQ tag k+0:=ct hi hc hl cQ
 have e3:Ct cA (upd tag i l) k+0=Ct cA tag k+0:=ct hi hc hl cA
 have e4:Ct cU (upd tag i l) k+0=Ct cU tag k+1:=ct hi hc hl cU
 have e5:Ct cR (upd tag i l) k+0=Ct cR tag k+0:=ct hi hc hl cR
 have e6:Ct pot (upd tag i l) k+3=Ct pot tag k+2:=ct hi hc hl pot
 exact ZlX
theorem Mu.unlockS (F:x.Fits tag k)(hi:i<k)(hc:cd (tag i)=14)(hl:cd l=17)(h:x.S=1):Mu.Fits { x with L:=0 } (upd tag i l) k∧Mu.mu { x with L:=0 } more (upd tag i l) k+3=x.mu more tag k+1:=by
 obtain⟨f1,f2,f3,f4,f5,f6⟩:=F
 have e0:Ct Zaq (upd tag i l) k+1=Ct Zaq tag k+0:=ct hi hc hl Zaq
 have e1:Ct cT (upd tag i l) k+0=Ct cT tag k+0:=ct hi hc hl cT
 have e2:Ct cQ (upd tag i l) k+0=Ct cQ tag k+0:=ct hi hc hl cQ
 have e3:Ct cA (upd tag i l) k+0=Ct cA tag k+0:=ct hi hc hl cA
 have e4:Ct cU (upd tag i l) k+0=Ct cU tag k+0:=ct hi hc hl cU
 have e5:Ct cR (upd tag i l) k+0=Ct cR tag k+1:=ct hi hc hl cR
 have e6:Ct pot (upd tag i l) k+3=Ct pot tag k+1:=ct hi hc hl pot
 exact ZlX
theorem Mu.giveU (F:x.Fits tag k)(hi:i<k)(hc:cd (tag i)=15)(hl:cd l=17)(h:x.L=0)(h2:x.W=0)(h3:x.S=0)(h4:0<x.n):Mu.Fits { x with n:=x.n-1,W:=1 } (upd tag i l) k∧Mu.mu { x with n:=x.n-1,W:=1 } more (upd tag i l) k+2=x.mu more tag k+1:=by
 obtain⟨f1,f2,f3,f4,f5,f6⟩:=F
 have e0:Ct Zaq (upd tag i l) k+0=Ct Zaq tag k+0:=ct hi hc hl Zaq
 have e1:Ct cT (upd tag i l) k+0=Ct cT tag k+0:=ct hi hc hl cT
 have e2:Ct cQ (upd tag i l) k+0=Ct cQ tag k+0:=ct hi hc hl cQ
 have e3:Ct cA (upd tag i l) k+0=Ct cA tag k+0:=ct hi hc hl cA
 have e4:Ct cU (upd tag i l) k+1=Ct cU tag k+0:=ct hi hc hl cU
 have e5:Ct cR (upd tag i l) k+0=Ct cR tag k+1:=ct hi hc hl cR
 have e6:Ct pot (upd tag i l) k+2=Ct pot tag k+1:=ct hi hc hl pot
 have g5:1<=Ct cU tag k:=cl hi hc cU
 refine⟨⟨?_,?_,?_,?_,?_,?_⟩,?_⟩<;>(try unfold Mu.mu)<;>(try dsimp only)<;>omega
theorem Mu.semrel (F:x.Fits tag k)(hi:i<k)(hc:cd (tag i)=17)(hl:cd l=18) :Mu.Fits { x with sm:=x.sm+1 } (upd tag i l) k∧Mu.mu { x with sm:=x.sm+1 } more (upd tag i l) k+1=x.mu more tag k+1:=by
 obtain⟨f1,f2,f3,f4,f5,f6⟩:=F
 have e0:Ct Zaq (upd tag i l) k+0=Ct Zaq tag k+0:=ct hi hc hl Zaq
 have e1:Ct cT (upd tag i l) k+0=Ct cT tag k+0:=ct hi hc hl cT
 have e2:Ct cQ (upd tag i l) k+0=Ct cQ tag k+0:=ct hi hc hl cQ
 have e3:Ct cA (upd tag i l) k+0=Ct cA tag k+0:=ct hi hc hl cA
 have e4:Ct cU (upd tag i l) k+0=Ct cU tag k+0:=ct hi hc hl cU
 have e5:Ct cR (upd tag i l) k+1=Ct cR tag k+0:=ct hi hc hl cR
 have e6:Ct pot (upd tag i l) k+1=Ct pot tag k+0:=ct hi hc hl pot
 have g6:1<=Ct cR tag k:=cl hi hc cR
 refine⟨⟨?_,?_,?_,?_,?_,?_⟩,?_⟩<;>(try unfold Mu.mu)<;>(try dsimp only)<;>omega
theorem Mu.leaveU (F:x.Fits tag k)(hi:i<k)(hc:cd (tag i)=16)(hl:cd l=18)(h:x.L=1∨x.W=1∨x.S=1∨x.n=0):Mu.Fits x (upd tag i l) k∧Mu.mu x more (upd tag i l) k+2=x.mu more tag k+0:=by
 obtain⟨f1,f2,f3,f4,f5,f6⟩:=F
 have e0:Ct Zaq (upd tag i l) k+0=Ct Zaq tag k+0:=ct hi hc hl Zaq
 have e1:Ct cT (upd tag i l) k+0=Ct cT tag k+0:=ct hi hc hl cT
 have e2:Ct cQ (upd tag i l) k+0=Ct cQ tag k+0:=ct hi hc hl cQ
 have e3:Ct cA (upd tag i l) k+0=Ct cA tag k+0:=ct hi hc hl cA
 have e4:Ct cU (upd tag i l) k+1=Ct cU tag k+0:=ct hi hc hl cU
 have e5:Ct cR (upd tag i l) k+0=Ct cR tag k+0:=ct hi hc hl cR
 have e6:Ct pot (upd tag i l) k+2=Ct pot tag k+0:=ct hi hc hl pot
 have g5:1<=Ct cU tag k:=cl hi hc cU
 refine⟨⟨?_,?_,?_,?_,?_,?_⟩,?_⟩<;>(try unfold Mu.mu)<;>(try dsimp only)<;>omega
theorem Mu.same1_2 (F:x.Fits tag k)(hi:i<k)(hc:cd (tag i)=1)(hl:cd l=2) :Mu.Fits x (upd tag i l) k∧Mu.mu x more (upd tag i l) k+6=x.mu more tag k+6:=by
 exact ZjX
theorem Mu.same2_3 (F:x.Fits tag k)(hi:i<k)(hc:cd (tag i)=2)(hl:cd l=3) :Mu.Fits x (upd tag i l) k∧Mu.mu x more (upd tag i l) k+6=x.mu more tag k+6:=by
 exact ZjX
theorem Mu.same3_4 (F:x.Fits tag k)(hi:i<k)(hc:cd (tag i)=3)(hl:cd l=4) :Mu.Fits x (upd tag i l) k∧Mu.mu x more (upd tag i l) k+6=x.mu more tag k+6:=by
 exact ZjX
theorem Mu.same4_3 (F:x.Fits tag k)(hi:i<k)(hc:cd (tag i)=4)(hl:cd l=3) :Mu.Fits x (upd tag i l) k∧Mu.mu x more (upd tag i l) k+6=x.mu more tag k+6:=by
 exact ZjX
theorem Mu.same5_6 (F:x.Fits tag k)(hi:i<k)(hc:cd (tag i)=5)(hl:cd l=6) :Mu.Fits x (upd tag i l) k∧Mu.mu x more (upd tag i l) k+5=x.mu more tag k+5:=by
 exact qLlMb5
theorem Mu.same6_5 (F:x.Fits tag k)(hi:i<k)(hc:cd (tag i)=6)(hl:cd l=5) :Mu.Fits x (upd tag i l) k∧Mu.mu x more (upd tag i l) k+5=x.mu more tag k+5:=by
 exact qLlMb5
theorem Mu.same10_11 (F:x.Fits tag k)(hi:i<k)(hc:cd (tag i)=10)(hl:cd l=11) :Mu.Fits x (upd tag i l) k∧Mu.mu x more (upd tag i l) k+3=x.mu more tag k+3:=by
 exact ZjY
theorem Mu.same11_12 (F:x.Fits tag k)(hi:i<k)(hc:cd (tag i)=11)(hl:cd l=12) :Mu.Fits x (upd tag i l) k∧Mu.mu x more (upd tag i l) k+3=x.mu more tag k+3:=by
 exact ZjY
theorem Mu.same12_13 (F:x.Fits tag k)(hi:i<k)(hc:cd (tag i)=12)(hl:cd l=13) :Mu.Fits x (upd tag i l) k∧Mu.mu x more (upd tag i l) k+3=x.mu more tag k+3:=by
 exact ZjY
theorem Mu.same13_14 (F:x.Fits tag k)(hi:i<k)(hc:cd (tag i)=13)(hl:cd l=14) :Mu.Fits x (upd tag i l) k∧Mu.mu x more (upd tag i l) k+3=x.mu more tag k+3:=by
 exact ZjY
theorem Mu.same15_16 (F:x.Fits tag k)(hi:i<k)(hc:cd (tag i)=15)(hl:cd l=16) :Mu.Fits x (upd tag i l) k∧Mu.mu x more (upd tag i l) k+2=x.mu more tag k+2:=by
 exact qLlMb6
theorem Mu.same16_15 (F:x.Fits tag k)(hi:i<k)(hc:cd (tag i)=16)(hl:cd l=15) :Mu.Fits x (upd tag i l) k∧Mu.mu x more (upd tag i l) k+2=x.mu more tag k+2:=by
 exact qLlMb6
theorem Mu.same18_19 (F:x.Fits tag k)(hi:i<k)(hc:cd (tag i)=18)(hl:cd l=19) :Mu.Fits x (upd tag i l) k∧Mu.mu x more (upd tag i l) k+0=x.mu more tag k+0:=by
 exact ZeZ
theorem Mu.same1_20 (F:x.Fits tag k)(hi:i<k)(hc:cd (tag i)=1)(hl:cd l=20) :Mu.Fits x (upd tag i l) k∧Mu.mu x more (upd tag i l) k+6=x.mu more tag k+0:=by
 obtain⟨f1,f2,f3,f4,f5,f6⟩:=F
 have e0:Ct Zaq (upd tag i l) k+0=Ct Zaq tag k+0:=ct hi hc hl Zaq
 have e1:Ct cT (upd tag i l) k+0=Ct cT tag k+0:=ct hi hc hl cT
 have e2:Ct cQ (upd tag i l) k+0=Ct cQ tag k+0:=ct hi hc hl cQ
 have e3:Ct cA (upd tag i l) k+0=Ct cA tag k+0:=ct hi hc hl cA
 have e4:Ct cU (upd tag i l) k+0=Ct cU tag k+0:=ct hi hc hl cU
 have e5:Ct cR (upd tag i l) k+0=Ct cR tag k+0:=ct hi hc hl cR
 have e6:Ct pot (upd tag i l) k+6=Ct pot tag k+0:=ct hi hc hl pot
 refine⟨⟨?_,?_,?_,?_,?_,?_⟩,?_⟩<;>(try unfold Mu.mu)<;>(try dsimp only)<;>omega
theorem Mu.same19_20 (F:x.Fits tag k)(hi:i<k)(hc:cd (tag i)=19)(hl:cd l=20) :Mu.Fits x (upd tag i l) k∧Mu.mu x more (upd tag i l) k+0=x.mu more tag k+0:=by
 exact ZeZ
theorem Mu.same20_21 (F:x.Fits tag k)(hi:i<k)(hc:cd (tag i)=20)(hl:cd l=21) :Mu.Fits x (upd tag i l) k∧Mu.mu x more (upd tag i l) k+0=x.mu more tag k+0:=by
 exact ZeZ
theorem Mu.same21_22 (F:x.Fits tag k)(hi:i<k)(hc:cd (tag i)=21)(hl:cd l=22) :Mu.Fits x (upd tag i l) k∧Mu.mu x more (upd tag i l) k+0=x.mu more tag k+0:=by
 exact ZeZ
theorem Mu.same22_23 (F:x.Fits tag k)(hi:i<k)(hc:cd (tag i)=22)(hl:cd l=23) :Mu.Fits x (upd tag i l) k∧Mu.mu x more (upd tag i l) k+0=x.mu more tag k+0:=by
 exact ZeZ
theorem Mu.same23_24 (F:x.Fits tag k)(hi:i<k)(hc:cd (tag i)=23)(hl:cd l=24) :Mu.Fits x (upd tag i l) k∧Mu.mu x more (upd tag i l) k+0=x.mu more tag k+0:=by
 exact ZeZ
theorem Mu.same21_0 (F:x.Fits tag k)(hi:i<k)(hc:cd (tag i)=21)(hl:cd l=0) :Mu.Fits x (upd tag i l) k∧Mu.mu x more (upd tag i l) k+0=x.mu more tag k+0:=by
 exact ZeZ
theorem Mu.same24_0 (F:x.Fits tag k)(hi:i<k)(hc:cd (tag i)=24)(hl:cd l=0) :Mu.Fits x (upd tag i l) k∧Mu.mu x more (upd tag i l) k+0=x.mu more tag k+0:=by
 exact ZeZ
end
end Go.LL
end
section
namespace Go.LL
open Go.Conc
open Go.ConcN (sumTo upd sumTo_upd upd_ne upd_same)
theorem ZdU.low {n m:Prop}{a b:Nat}(h:ZdU n m a)(a1:2<=a)(a2:a<=12)(b1:2<=b)(b2:b<=12):ZdU n m b:=⟨fun e=>by omega,fun _ _=>h.2.1 a1 a2,fun e _=>by omega,fun e=>by omega⟩
theorem ZdU.mid {n m:Prop}{a b:Nat}(h:ZdU n m a)(a1:13<=a)(a2:a<=19)(b1:13<=b)(b2:b<=19):ZdU n m b:=⟨fun e=>by omega,fun _ e=>by omega,fun _ _=>h.2.2.1 a1 a2,fun e=>by omega⟩
theorem ZdU.up {n m:Prop}(h:ZdU n m 19):ZdU n m 20:=⟨fun e=>by omega,fun _ e=>by omega,fun _ e=>by omega,fun _ _=>h.2.2.1 (by omega) (by omega)⟩
theorem ZdU.hi {n m:Prop}{a b:Nat}(h:ZdU n m a)(a1:a=0∨20<=a)(b1:b=0∨20<=b):ZdU n m b:=⟨fun e=>by omega,fun e e'=>by omega,fun e e'=>by omega,fun _=>h.2.2.2 a1⟩
theorem ZdU.start {n m:Prop}(h:ZdU n m 1)(hn:n):ZdU n m 2:=⟨fun e=>by omega,fun _ _=>⟨hn,h.1 rfl⟩,fun e _=>by omega,fun e=>by omega⟩
theorem ZdU.skip {n m:Prop}(h:ZdU n m 1)(hn:¬ n):ZdU n m 20:=⟨fun e=>by omega,fun e e'=>by omega,fun e e'=>by omega,fun _ e=>absurd e hn⟩
theorem Zal {a b d e:Nat}(h:a+d=b+e)(he:e<=d):a<=b:=by omega
theorem Zbf {a b d e:Nat}(h:a+d=b+e)(he:e<d):a≠b:=by omega
section
variable  {c:Cx}{s:Ts}{i:Nat}{l:List Nat}
theorem Mu.Says.keep {x x':Mu}{m m':Nat}{l:List Nat}(h:x.Says m l)(hm:m'<=m)(hst:m'=m->x'.st=x.st)(h9:cd l=9->x.S=1->x'.S=1∧x.n<=x'.n):x'.Says m' l:=by
 have key:∀ v k,(m<=k∧(m=k->x.st=v))->(m'<=k∧(m'=k->x'.st=v)):=by
  rintro v k ⟨h1,h2⟩
  refine⟨by omega,fun e=>?_⟩
  have:m'=m:=by omega
  rw[hst this]
  exact h2 (by omega)
 unfold Mu.Says at h ⊢
 split
 ·exact key _ _ h
 ·exact key _ _ h
 ·exact⟨(key _ _ ⟨h.1,h.2.1⟩).1,(key _ _ ⟨h.1,h.2.1⟩).2,h.2.2⟩
 ·obtain⟨h1,h2,h3⟩:=h
  obtain⟨h4,h5⟩:=h9 rfl h1
  exact⟨h4,h2,by omega⟩
 ·exact Nat.lt_of_le_of_lt hm h
 ·exact Nat.lt_of_le_of_lt hm h
 ·exact Nat.lt_of_le_of_lt hm h
 ·exact Nat.lt_of_le_of_lt hm h
 ·exact Nat.lt_of_le_of_lt hm h
 ·exact h
 ·exact h
 ·exact h
 ·exact h
 ·trivial
theorem Mu.says_main {x:Mu}{m:Nat}{l:List Nat}(h:30<=cd l):x.Says m l:=by
 unfold Mu.Says
 split<;>first | (simp[cd]at h;done) | trivial
theorem Mu.Fits.main {x:Mu}{tag:Nat->List Nat}{k more:Nat}{l:List Nat}(F:x.Fits tag k)(hk:0<k)(hc:30<=cd (tag 0))(hl:30<=cd l):Mu.Fits x (upd tag 0 l) k∧Mu.mu x more (upd tag 0 l) k=x.mu more tag k:=by
 have z:∀ n,30<=n->Zaq n=0∧cT n=0∧cQ n=0∧cA n=0∧cU n=0∧cR n=0∧pot n=0:=by
  intro n hn
  refine⟨?_,?_,?_,?_,?_,?_,?_⟩
  ·simp[Zaq,one];omega
  ·simp[cT,one];omega
  ·simp[cQ,one];omega
  ·simp[cA,one];omega
  ·simp[cU,one];omega
  ·simp[cR,one];omega
  ·simp only[pot]
   have e1:(1<=n && n<=4)=false:=by simp;omega
   have e2:(n == 5 || n == 6 || n == 8 || n == 9)=false:=by simp;omega
   have e3:(n == 7)=false:=by simp;omega
   have e4:(10<=n && n<=14)=false:=by simp;omega
   have e5:(n == 15 || n == 16)=false:=by simp;omega
   have e6:(n == 17)=false:=by simp;omega
   simp[e1,e2,e3,e4,e5,e6]
 obtain⟨a1,a2,a3,a4,a5,a6,a7⟩:=z _ hc
 obtain⟨b1,b2,b3,b4,b5,b6,b7⟩:=z _ hl
 have q:∀ f:Nat->Nat,f (cd (tag 0))=0->f (cd l)=0->Ct f (upd tag 0 l) k=Ct f tag k:=by
  intro f h1 h2
  have:=counts (tag:=tag) (l:=l) hk f
  omega
 refine⟨⟨?_,F.L2,F.W1,F.S1,?_,?_⟩,?_⟩
 ·rw[q _ a1 b1];exact F.L1
 ·rw[q _ a3 b3,q _ a6 b6,q _ a2 b2,q _ a4 b4,q _ a5 b5];exact F.norm
 ·rw[q _ a3 b3,q _ a6 b6,q _ a2 b2,q _ a4 b4];exact F.starv
 ·unfold Mu.mu;rw[q _ a7 b7]
theorem Mu.Fits.keep9 {x:Mu}{tag:Nat->List Nat}{k i j:Nat}(F:x.Fits tag k)(hi:i<k)(hj:j<k)(hji:j≠i)(h9:cd (tag j)=9)(hS:x.S=1) :
  x.L=0∧x.W=0∧x.sm=0∧Zaq (cd (tag i))=0∧cR (cd (tag i))=0∧cA (cd (tag i))=0:=by
 have h:=F.starv hS
 have hA:cA (cd (tag j))+cA (cd (tag i))<=Ct cA tag k:=by
  have e1:=counts (tag:=tag) (l:=[0]) hi cA
  have e2:=Ct.le cA (upd tag i [0]) hj
  rw[upd_ne _ _ hji]at e2
  have:cA (cd [0])=0:=rfl
  omega
 have hR:=Ct.le cR tag hi
 have hH:=Ct.le Zaq tag hi
 have:cA (cd (tag j))=1:=by rw[h9];rfl
 have:=F.L1
 omega
theorem Cnt.step (h:Cnt c s)(hi:i<s.next)(hlive:i=0∨c.base<=i){x':Mu}(y':Wg)(hmu:Mu.Fits x' (upd s.tag i l) s.next)(hmm:Mu.mu x' s.more (upd s.tag i l) s.next<=Mu.mu s.mu s.more s.tag s.next)
  (hst:Mu.mu x' s.more (upd s.tag i l) s.next=Mu.mu s.mu s.more s.tag s.next->x'.st=s.mu.st) (h9:∀ j,j<s.next->j≠i->cd (s.tag j)=9->s.mu.S=1->x'.S=1∧s.mu.n<=x'.n)
  (hwg:Wg.Fits y' (upd s.tag i l) s.next s.more) (hsays:x'.Says (Mu.mu x' s.more (upd s.tag i l) s.next) l) (hsm:(i=0->∀ v,(l=[35,v]->y'.v<=v)∧(l=[34,v]->y'.v<v))∧(i=0->∀ k n,k<=33->l=[k,n]->s.next=c.base+n)∧(i≠0->y'.v<=s.wg.v))
  (h12:cd l=12->l=12 :: s.log) (hw:i≠0->c.base<=i->cd l<=24∧(cd l=0->l=[0])) (hlog:i≠0->ZdU (c.need i=true) (i∈s.log) (cd (s.tag i))->ZdU (c.need i=true) (i∈s.log) (cd l)) :
  Cnt c { s with mu:=x',wg:=y',tag:=upd s.tag i l }:=by
 refine⟨hmu,hwg,fun j hj=>?_,fun v=>?_,fun k n hk hl=>?_,fun j hj hc=>?_,h.num,h.pos,h.nb,fun j h1 h2=>?_,fun j h1 h2=>?_,h.lnd,h.lmem,fun j h1 h2=>?_⟩
 ·by_cases e:j=i
  ·subst e;simp only[upd_same];exact hsays
  ·simp only[upd_ne _ _ e]
   exact(h.says j hj).keep hmm hst fun hc hS=>h9 j hj e hc hS
 ·by_cases e:i=0
  ·subst e;simp only[upd_same];exact hsm.1 rfl v
  ·simp only[upd_ne _ _ (Ne.symm e)]
   exact⟨fun hv=>Nat.le_trans (hsm.2.2 e) ((h.saysM v).1 hv),fun hv=>Nat.lt_of_le_of_lt (hsm.2.2 e) ((h.saysM v).2 hv)⟩
 ·by_cases e:i=0
  ·subst e;simp only[upd_same]at hl;exact hsm.2.1 rfl k n hk hl
  ·simp only[upd_ne _ _ (Ne.symm e)]at hl;exact h.cntN k n hk hl
 ·by_cases e:j=i
  ·subst e;simp only[upd_same]at hc ⊢;exact h12 hc
  ·simp only[upd_ne _ _ e]at hc ⊢;exact h.tk j hj hc
 ·have:j≠i:=by rintro rfl;omega
  simp only[upd_ne _ _ this]
  exact h.olds j h1 h2
 ·by_cases e:j=i
  ·subst e
   simp only[upd_same]
   exact hw (by have:=h.pos;omega) h1
  ·simp only[upd_ne _ _ e];exact h.works j h1 h2
 ·by_cases e:j=i
  ·subst e
   simp only[upd_same]
   exact hlog (by have:=h.pos;omega) (h.lwk j h1 h2)
  ·simp only[upd_ne _ _ e];exact h.lwk j h1 h2
end
end Go.LL
end
