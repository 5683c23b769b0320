import Derived.Test.YthmnpenamnoniaaGreatDoorP19
set_option linter.all false
section
namespace Go.LL
theorem ZlV {G:Prop} (h:G:=by
  intro op hop x hx' b hb'
  simp only[List.mem_toArray,List.mem_singleton]at hop
  rw[hop]at hx';simp[MemAct.touch?]at hx'):G:=h
theorem ZlW {G:Prop} (h:G:=by
  intro said q a _ op hop b hb' _
  simp only[List.mem_toArray,List.mem_singleton]at hop
  rw[hop]at hb';simp[MemAct.touch?]at hb'):G:=h
open Go.Conc
open Go.ConcN (sumTo upd sumTo_upd upd_ne upd_same)
section
variable  {p:Program}{c:Cx}{i:Nat}{H:Hp}{f:FuncId}{wk nr:Bool}
theorem ZcN (H:Hp):H.tagged H.gh=H:=Hp.ext' (fun _=>rfl) rfl
theorem Zh9 {α:Type}(g:Nat->α)(i:Nat):upd g i (g i)=g:=by
 funext j
 by_cases e:j=i
 ·subst e;rw[upd_same]
 ·rw[upd_ne _ _ e]
theorem Zfx (ok:c.Ok)(hx:Ext p f Extern.OsHooks.nano)(hn:norace p f=true){vs:Array Value}(hg:1<=cd H.gh∧cd H.gh<=19∧cd H.gh≠12) :
  ShOp ((team p c).prgW i) (callFunc f vs) wk nr H (fun v H'=>(∃ z,v=.int .i64 z)∧H'=H):=by
 refine ZcP ok (.inl ⟨hg.1,hg.2.1⟩) fun s Hs t w hA=>.inr ?_
 have htag:s.tag i=H.gh:=hA.tag
 have hI:CInv c s Hs t:=hA.inv
 have hcnt:Cnt c { s with tag:=upd s.tag i H.gh }:=by
  rw[<-htag,Zh9];exact hI.cnt
 obtain⟨n1,n2,n3⟩:=no_evs (i:=i) (d:=Deaf t i) (C:=c.toTC)
 have hr:(callFunc f vs).runT p w #[]=(.ok (.value (.int .i64 ((w.os.mono+w.tick:Nat):Int))) w.later,#[extE f]++#[⟨.output,true,false⟩]):=hx.val rfl rfl
 have hm:=wM ok hA
 have hw:=wW hA
 refine⟨_,H.gh,⟨⟨w.later,_,#[],s.mu,s.wg,hr,fun fn _=>seen_entry_out fn f hn,hcnt,n1,n2,?_,hm,hw,fun _ _ _=>rfl,rfl,⟨⟨w.tick,rfl⟩,rfl,rfl⟩,.inr ⟨id,id⟩⟩,.inr htag.symm,by rw[htag];omega,by omega,fun e=>by omega,by rw[htag];omega⟩,.inl ⟨hg.1,hg.2.1⟩,⟨_,rfl⟩,ZcN H⟩
 rw[n3,Zfc hA (by rw[htag];omega),htag,if_neg (by omega)]
theorem Zjq (ok:c.Ok){s:Ts}{Hs:Hp}{t:Trace}{w:World}(hA:Ahead (team p c) i H s Hs t w):H c.M=none∧H c.W=none:=by
 have hI:CInv c s Hs t:=hA.inv
 constructor
 ·cases hh:H c.M with
  | none=>rfl
  | some y=>have:=hA.dis c.M _ _ hh (hI.atM ok);rw[this.1]at this;simp at this
 ·cases hh:H c.W with
  | none=>rfl
  | some y=>have:=hA.dis c.W _ _ hh hI.atW;rw[this.1]at this;simp at this
theorem Zcm (ok:c.Ok)(hx:Ext p f (Extern.Race.marked .acquire))(hg:H.gh=[11]) :
  ShOp ((team p c).prgW i) (callFunc f #[.pointer (some (mkA c.M))]) wk nr H (fun v H'=>v=ZaC∧∃ (l:List Nat) (Hl:Hp),c.PI l Hl∧i ∉ l∧c.need i=true∧Hl.gh=[]∧(H.tagged (12 :: l)).Comp Hl∧H'=(H.tagged (12 :: l)).join Hl):=by
 intro G fr nx cs hcl ha hG
 refine .shared ⟨by rw[hg];simp,.inr (.inl ⟨.inl (by rw[hg];simp[cd]),fun s Hs t w hA=>.inl ?_⟩)⟩
 have htag:s.tag i=[11]:=(show s.tag i=H.gh from hA.tag).trans hg
 have hI:CInv c s Hs t:=hA.inv
 have hb:=Zgr hA (by rw[htag];simp[cd]) (by rw[htag];simp[cd])
 have hi0:i≠0:=by have:=hI.cnt.pos;omega
 have hlive:=Zf5 hA (by rw[htag];simp)
 have hD:Deaf t i=0:=by rw[Zfc hA (by rw[htag];simp[cd]),htag];rfl
 obtain⟨hHM,hHW⟩:=Zjq ok hA
 have hhold:Zaq (cd (s.tag i))=1:=by rw[htag];rfl
 have hnt:¬ Zeo s:=by
  rintro⟨j,hj,e | e⟩
  ·have hji:j≠i:=by rintro rfl;rw[htag]at e;simp[cd]at e
   have hlt:i<s.next:=hA.lt
   have e1:=counts (tag:=s.tag) (l:=[0]) hlt Zaq
   have e2:=Ct.le Zaq (upd s.tag i [0]) hj
   rw[upd_ne _ _ hji,e]at e2
   have e3:Zaq (cd [0])=0:=rfl
   have e4:Zaq 12=1:=rfl
   have:=hI.cnt.mu.L1;have:=hI.cnt.mu.L2
   omega
  ·have:=ZjC hI.cnt hj (by omega)
   subst this
   have:=hI.cnt.over (by omega) hb hA.lt
   rw[htag]at this
   simp at this
 obtain⟨Hl0,hHs,hc0,hPI0⟩:=(hI.heap.resolve_left fun h=>hnt h.1).2
 let Hl:Hp:=⟨Hl0.mem,[]⟩
 obtain⟨p1,p2⟩:=ZeA ok hc0
 obtain⟨hneed,hnl⟩:=(hI.cnt.lwk i hb hA.lt).2.1 (by rw[htag];simp[cd]) (by rw[htag];simp[cd])
 have hr:=Zcx hx (mkA c.M) w
 have hes:seen p fr.fn (#[extE f]++#[⟨.mark (.acquire (mkA c.M)),false,true⟩])=#[⟨.mark (.acquire (mkA c.M)),false,true⟩]:=ZcR fun x hx=>by simp at hx;subst hx;exact⟨rfl,by simp⟩
 have hu:Zbl i fr #[⟨.mark (.acquire (mkA c.M)),false,true⟩]=#[{ g:=i,fn:=fr.fn,pos:=fr.place,act:=.mark (.acquire (mkA c.M)) }]:=by simp[Zbl,ofEvents_eq,MemAct.ofEvent]
 have hpl:∀ b x,Hl b=some x->plOf c Hs b:=by
  intro b x hb
  have hb0:Hl0 b=some x:=hb
  refine⟨⟨x,?_⟩,?_,?_⟩
  ·rw[hHs];exact Hp.join_right hc0 hb0
  ·rintro rfl;rw[p1]at hb0;simp at hb0
  ·rintro rfl;rw[p2]at hb0;simp at hb0
 obtain⟨tr1,tr2⟩:=hI.tr.take (y:={ g:=i,fn:=fr.fn,pos:=fr.place,act:=.mark (.acquire (mkA c.M)) }) rfl hD hlive
 have hcomp:(H.tagged (12 :: s.log)).Comp Hl:=⟨fun b x y h1 h2=>by
  have h2':Hs b=some y:=by rw[hHs];exact Hp.join_right hc0 h2
  exact hA.dis b x y h1 h2',.inr rfl⟩
 have hgh:((H.tagged (12 :: s.log)).join Hl).gh=12 :: s.log:=by simp[Hp.join_gh,Hp.tagged,Hl]
 have hcnt:Cnt c { s with tag:=upd s.tag i (12 :: s.log) }:=by
  obtain⟨m1,m2⟩:=Mu.same11_12 (more:=s.more) (l:=12 :: s.log) hI.cnt.mu hA.lt (by rw[htag];rfl) rfl
  have hst:=Wg.stay11_12 (l:=12 :: s.log) hI.cnt.wg hA.lt hi0 (by rw[htag];rfl) rfl
  refine hI.cnt.step hA.lt (.inr hb) s.wg m1 (Zal m2 (by decide)) (fun _=>rfl) (fun j _ _ _ hS=>⟨hS,Nat.le_refl _⟩) hst ?_ ⟨fun e=>absurd e hi0,fun e=>absurd e hi0,fun _=>Nat.le_refl _⟩ (fun _=>rfl) (fun _ _=>⟨by simp[cd],fun e=>by simp[cd]at e⟩) fun _ hlg=>?_
  ·unfold Mu.Says
   split<;>first | (rename_i h;simp at h;done) | trivial
  ·rw[htag]at hlg;exact ZdU.low hlg (by simp[cd]) (by simp[cd]) (by simp[cd]) (by simp[cd])
 refine⟨nx ZaC,cs,w,(H.tagged (12 :: s.log)).join Hl,{ s with tag:=upd s.tag i (12 :: s.log) },mwH c s,#[⟨.mark (.acquire (mkA c.M)),false,true⟩],?_,?_,?_,fun j=>?_,rfl,Nat.le_refl _,.inr fun j hj=>?_,.inl ⟨hG _ _ ⟨rfl,s.log,Hl,?_,hnl,hneed,rfl,hcomp,rfl⟩,?_⟩⟩
 ·exact(ZbF (P:=p) ha hr).trans (by rw[hes])
 ·rw[hu]
  refine⟨Nat.le_refl _,fun _ _ _ _=>rfl,fun b o pm h=>hA.leS b o pm (hI.mw h),fun b x h=>.inr ⟨x,.inr (hI.mw h),fun _=>rfl⟩,.refl w,?_,?_,?_,?_⟩
  ·exact ZlV
  ·exact ZlW
  ·intro op hop
   simp only[List.mem_toArray,List.mem_singleton]at hop
   rw[hop]
   exact hA.leS.lt (hI.atM ok)
  ·refine⟨hcnt,tr1.sub (fun j hj=>?_) (fun b hb'=>?_),fun j hj hcd=>?_,fun h40=>?_,.inl ⟨⟨i,hA.lt,.inl (by simp[upd_same,cd])⟩,rfl⟩⟩
   ·unfold Zcf at hj ⊢
    simp only at hj
    by_cases e:j=i
    ·subst e;rw[upd_same]at hj;simp[cd]at hj
    ·rw[upd_ne _ _ e]at hj;exact hj
   ·obtain⟨⟨x,hx'⟩,b1,b2⟩:=hb'
    exact absurd (hx'.symm.trans (Zbo b1 b2)) (by simp)
   ·have:=Zed (i:=i) (l:=12 :: s.log) (es:=#[⟨.mark (.acquire (mkA c.M)),false,true⟩]) (fn:=fr.fn) (pos:=fr.place) hI.deaf (fun _=>by rw[hD];rfl) hj hcd
    rw[<-hu]
    exact this
   ·simp only[upd_ne _ _ (Ne.symm hi0)]at h40
    have:=hI.cnt.over (by omega) hb hA.lt
    rw[htag]at this;simp at this
 ·rw[hu]
  refine⟨?_,?_,?_,?_⟩
  ·intro b o pm hb'
   simp only[Hp.join_at,Hp.tagged_at]at hb'
   cases hh:H b with
   | some z=>rw[hh]at hb';exact hA.le b o pm (by rw[hh];exact hb')
   | none=>rw[hh]at hb';exact hA.leS b o pm (by rw[hHs];exact Hp.join_right hc0 hb')
  ·intro b x y h1 h2
   exfalso
   rcases(Zcb h2).1 with rfl | rfl
   ·have:H c.M=none∧Hl0 c.M=none:=⟨hHM,p1⟩
    simp only[Hp.join_at,Hp.tagged_at,this.1]at h1
    have h1':Hl0 c.M=some x:=h1
    rw[p1]at h1';simp at h1'
   ·simp only[Hp.join_at,Hp.tagged_at,hHW]at h1
    have h1':Hl0 c.W=some x:=h1
    rw[p2]at h1';simp at h1'
  ·intro b x hb'
   refine .inr ⟨x,?_,fun _=>rfl⟩
   simp only[Hp.join_at,Hp.tagged_at]at hb'
   cases hh:H b with
   | some z=>rw[hh]at hb';exact .inl hb'
   | none=>rw[hh]at hb';exact .inr (by rw[hHs];exact Hp.join_right hc0 hb')
  ·have h1:PermH (t++#[{ g:=i,fn:=fr.fn,pos:=fr.place,act:=.mark (.acquire (mkA c.M)) }]) i (H.tagged (12 :: s.log)):=
    hA.perm.own fun op hop=>.inl (by simp only[List.mem_toArray,List.mem_singleton]at hop;rw[hop])
   refine h1.join fun b o pm hb' q a hq hl _=>?_
   obtain⟨x,hx',hxa⟩:=touch_of hq
   exact tr2 b (hpl b _ hb') q x a hx' hxa hl
 ·show upd s.tag i (12 :: s.log) j=_
  rw[hgh];rfl
 ·have hj:cBlk s j:=hj
  show cBlk _ j
  unfold cBlk at hj ⊢
  have:j≠i:=by rintro rfl;rw[htag]at hj;simp[cd]at hj
  simp only[upd_ne _ _ this]
  exact hj
 ·have:Hl.mem=Hl0.mem:=rfl
  exact ok.bare _ _ _ hPI0
 ·show cAct _
  rw[hgh];exact .inl (by simp[cd])
theorem act_give (ok:c.Ok)(hx:Ext p f (Extern.Race.marked .releaseMerge)){H0 Hl:Hp}{l:List Nat}(hc:H0.Comp Hl)(hg:H0.gh=12 :: l)(hPI:c.PI (l++[i]) Hl) :
  ShOp ((team p c).prgW i) (callFunc f #[.pointer (some (mkA c.M))]) wk nr (H0.join Hl) (fun v H'=>v=ZaC∧H'=H0.tagged [13]):=by
 have hlg:Hl.gh=[]:=hc.gh.resolve_left (by rw[hg];simp)
 have hjg:(H0.join Hl).gh=12 :: l:=by rw[Hp.join_gh,hlg,hg];simp
 intro G fr nx cs hcl ha hG
 refine .shared ⟨by rw[hjg];simp,.inr (.inl ⟨.inl (by rw[hjg];simp[cd]),fun s Hs t w hA=>.inl ?_⟩)⟩
 have htag:s.tag i=12 :: l:=(show s.tag i=(H0.join Hl).gh from hA.tag).trans hjg
 have hlt:i<s.next:=hA.lt
 have hI:CInv c s Hs t:=hA.inv
 have hb:=Zgr hA (by rw[htag];simp[cd]) (by rw[htag];simp[cd])
 have hi0:i≠0:=by have:=hI.cnt.pos;omega
 have hlive:=Zf5 hA (by rw[htag];simp)
 have hD:Deaf t i=0:=by rw[Zfc hA (by rw[htag];simp[cd]),htag];rfl
 obtain⟨hHM,hHW⟩:=Zjq ok hA
 have hlog:s.log=l:=by
  have:=hI.cnt.tk i hlt (by rw[htag];rfl)
  rw[htag]at this
  simpa using this.symm
 have htk:Zeo s:=⟨i,hlt,.inl (by rw[htag];rfl)⟩
 have hHs:Hs=mwH c s:=by
  rcases hI.heap with h | h
  ·exact h.2
  ·exact absurd htk h.1
 have hhold:Zaq (cd (s.tag i))=1:=by rw[htag];rfl
 obtain⟨hneed,hnl⟩:=(hI.cnt.lwk i hb hlt).2.1 (by rw[htag];simp[cd]) (by rw[htag];simp[cd])
 have hr:=Zcx hx (mkA c.M) w
 have hes:seen p fr.fn (#[extE f]++#[⟨.mark (.releaseMerge (mkA c.M)),false,true⟩])=#[⟨.mark (.releaseMerge (mkA c.M)),false,true⟩]:=ZcR fun x hx=>by simp at hx;subst hx;exact⟨rfl,by simp⟩
 have hu:Zbl i fr #[⟨.mark (.releaseMerge (mkA c.M)),false,true⟩]=#[{ g:=i,fn:=fr.fn,pos:=fr.place,act:=.mark (.releaseMerge (mkA c.M)) }]:=by simp[Zbl,ofEvents_eq,MemAct.ofEvent]
 have hHl:∀ b x,Hl b=some x->(H0.join Hl) b=some x:=fun b x h=>Hp.join_right hc h
 have hlM:Hl c.M=none:=(Hp.join_none.1 hHM).2
 have hlW:Hl c.W=none:=(Hp.join_none.1 hHW).2
 have hnt:¬ Zeo { s with tag:=upd s.tag i [13],log:=l++[i] }:=by
  rintro⟨j,hj,e⟩
  by_cases hji:j=i
  ·subst hji;simp only[upd_same,cd]at e;simp at e
  ·simp only[upd_ne _ _ hji]at e
   rcases e with e | e
   ·have e1:=counts (tag:=s.tag) (l:=[0]) hlt Zaq
    have e2:=Ct.le Zaq (upd s.tag i [0]) hj
    rw[upd_ne _ _ hji,e]at e2
    have e3:Zaq (cd [0])=0:=rfl
    have e4:Zaq 12=1:=rfl
    have:=hI.cnt.mu.L1;have:=hI.cnt.mu.L2
    simp only at e2
    omega
   ·have:=ZjC hI.cnt hj (by omega)
    subst this
    have:=hI.cnt.over (by omega) hb hlt
    rw[htag]at this
    simp at this
 have hcnt:Cnt c { s with tag:=upd s.tag i [13],log:=l++[i] }:=by
  obtain⟨m1,m2⟩:=Mu.same12_13 (more:=s.more) (l:=[13]) hI.cnt.mu hlt (by rw[htag];rfl) rfl
  have hst:=Wg.stay12_13 (l:=[13]) hI.cnt.wg hlt hi0 (by rw[htag];rfl) rfl
  have hmem:∀ j,j∈l++[i]↔j∈s.log∨j=i:=by intro j;rw[hlog];simp
  refine⟨m1,hst,fun j hj=>?_,fun v=>?_,fun k n hk hl=>?_,fun j hj hcd=>?_,hI.cnt.num,hI.cnt.pos,hI.cnt.nb,fun j h1 h2=>?_,fun j h1 h2=>?_,?_,fun j hj=>?_,fun j h1 h2=>?_⟩
  ·by_cases e:j=i
   ·subst e;simp only[upd_same];trivial
   ·simp only[upd_ne _ _ e]
    exact(hI.cnt.says j hj).keep (Zal m2 (by decide)) (fun _=>rfl) fun _ hS=>⟨hS,Nat.le_refl _⟩
  ·simp only[upd_ne _ _ (Ne.symm hi0)];exact hI.cnt.saysM v
  ·simp only[upd_ne _ _ (Ne.symm hi0)]at hl;exact hI.cnt.cntN k n hk hl
  ·exfalso
   exact hnt ⟨j,hj,.inl hcd⟩
  ·have:j≠i:=by rintro rfl;omega
   simp only[upd_ne _ _ this];exact hI.cnt.olds j h1 h2
  ·by_cases e:j=i
   ·subst e;simp only[upd_same];exact⟨by simp[cd],fun e=>by simp[cd]at e⟩
   ·simp only[upd_ne _ _ e];exact hI.cnt.works j h1 h2
  ·have:=hI.cnt.lnd
   rw[hlog]at this
   refine List.nodup_append.2 ⟨this,by simp,fun a ha b hb e=>?_⟩
   simp only[List.mem_singleton]at hb
   rw[e,hb]at ha
   rw[hlog]at hnl
   exact hnl ha
  ·rcases(hmem j).1 hj with h1 | rfl
   ·exact hI.cnt.lmem j h1
   ·exact⟨hb,hlt,hneed⟩
  ·have hk:=hI.cnt.lwk j h1 h2
   by_cases e:j=i
   ·subst e
    simp only[upd_same]
    exact⟨fun e=>by simp[cd]at e,fun _ e=>by simp[cd]at e,fun _ _=>(hmem j).2 (.inr rfl),fun e=>by simp[cd]at e⟩
   ·simp only[upd_ne _ _ e]
    have:j∈l++[i]↔j∈s.log:=(hmem j).trans ⟨fun h=>h.resolve_right e,.inl⟩
    rw[this]
    exact hk
 have hdis:(mwH c s).Comp Hl:=⟨fun b x y h1 h2=>by
  rcases(Zcb h1).1 with rfl | rfl
  ·rw[hlM]at h2;simp at h2
  ·rw[hlW]at h2;simp at h2,.inl rfl⟩
 refine⟨nx ZaC,cs,w,H0.tagged [13],{ s with tag:=upd s.tag i [13],log:=l++[i] },(mwH c s).join Hl,#[⟨.mark (.releaseMerge (mkA c.M)),false,true⟩],?_,?_,?_,fun j=>rfl,rfl,Nat.le_refl _,.inr fun j hj=>?_,.inl ⟨hG _ _ ⟨rfl,rfl⟩,.inl (by simp[Hp.tagged,cd])⟩⟩
 ·exact(ZbF (P:=p) ha hr).trans (by rw[hes])
 ·rw[hu]
  refine⟨Nat.le_refl _,fun _ _ _ _=>rfl,?_,?_,.refl w,?_,?_,?_,?_⟩
  ·intro b o pm h
   simp only[Hp.join_at]at h
   cases hh:mwH c s b with
   | some z=>rw[hh]at h;exact hA.leS b o pm (by rw[hHs];exact hh.trans h)
   | none=>rw[hh]at h;exact hA.le b o pm (hHl b _ h)
  ·intro b x h
   simp only[Hp.join_at]at h
   cases hh:mwH c s b with
   | some z=>rw[hh]at h;exact .inr ⟨x,.inr (by rw[hHs];exact hh.trans h),fun _=>rfl⟩
   | none=>rw[hh]at h;exact .inr ⟨x,.inl (hHl b _ h),fun _=>rfl⟩
  ·exact ZlV
  ·exact ZlW
  ·intro op hop
   simp only[List.mem_toArray,List.mem_singleton]at hop
   rw[hop]
   exact hA.leS.lt (hI.atM ok)
  ·have tr1:=hI.tr.give (y:={ g:=i,fn:=fr.fn,pos:=fr.place,act:=.mark (.releaseMerge (mkA c.M)) }) rfl hD ⟨hb,hlt,by unfold Zcf;rw[htag];simp[cd]⟩ (pl':=plOf c ((mwH c s).join Hl)) (fun b hb'=>.inr fun q x a hq ha' hbl=>by
    obtain⟨⟨y,hy⟩,b1,b2⟩:=hb'
    have hmn:mwH c s b=none:=Zbo b1 b2
    simp only[Hp.join_at]at hy
    rw[hmn]at hy
    have hw:=ok.own _ _ hPI b y hy
    refine hA.perm b y.1 y.2 (hHl b _ hy) q a ?_ hbl (.inl hw)
    rw[touchAt_of hq];exact ha')
   refine⟨hcnt,tr1.sub (fun j hj=>?_) (fun _ h=>h),fun j hj hcd=>?_,fun h40=>?_,.inr ⟨hnt,Hl,rfl,hdis,hPI⟩⟩
   ·unfold Zcf at hj ⊢
    simp only at hj
    by_cases e:j=i
    ·subst e;rw[upd_same]at hj;simp[cd]at hj
    ·rw[upd_ne _ _ e]at hj;exact hj
   ·have:=Zed (i:=i) (l:=[13]) (es:=#[⟨.mark (.releaseMerge (mkA c.M)),false,true⟩]) (fn:=fr.fn) (pos:=fr.place) hI.deaf (fun _=>by rw[hD];rfl) hj hcd
    rw[<-hu]
    exact this
   ·simp only[upd_ne _ _ (Ne.symm hi0)]at h40
    have:=hI.cnt.over (by omega) hb hlt
    rw[htag]at this;simp at this
 ·rw[hu]
  refine⟨fun b o pm h=>hA.le b o pm (Hp.join_left h),?_,fun b x h=>.inr ⟨x,.inl (Hp.join_left h),fun _=>rfl⟩,?_⟩
  ·intro b x y h1 h2
   simp only[Hp.join_at]at h2
   cases hh:mwH c s b with
   | some z=>rw[hh]at h2;exact hA.dis b x y (Hp.join_left h1) (by rw[hHs];exact hh.trans h2)
   | none=>rw[hh]at h2;exact hc b x y h1 h2
  ·have h1:PermH (t++#[{ g:=i,fn:=fr.fn,pos:=fr.place,act:=.mark (.releaseMerge (mkA c.M)) }]) i (H0.join Hl):=
    hA.perm.own fun op hop=>.inl (by simp only[List.mem_toArray,List.mem_singleton]at hop;rw[hop])
   exact h1.left
 ·have hj:cBlk s j:=hj
  show cBlk _ j
  unfold cBlk at hj ⊢
  have:j≠i:=by rintro rfl;rw[htag]at hj;simp[cd]at hj
  simp only[upd_ne _ _ this]
  exact hj
theorem act_over (ok:c.Ok)(hx:Ext p f (Extern.Race.marked .releaseMerge))(hg:(cd H.gh=1∧¬ c.need i=true)∨cd H.gh=19) :
  ShOp ((team p c).prgW i) (callFunc f #[.pointer (some (mkA c.W))]) wk nr H (fun v H'=>v=ZaC∧H'=H.tagged [20]):=by
 have hgr:1<=cd H.gh∧cd H.gh<=19∧cd H.gh≠12∧cd H.gh≠7:=by omega
 intro G fr nx cs hcl ha hG
 refine .shared ⟨fun e=>by rw[e]at hgr;simp[cd]at hgr,.inr (.inl ⟨.inl ⟨hgr.1,hgr.2.1⟩,fun s Hs t w hA=>.inl ?_⟩)⟩
 have htag:s.tag i=H.gh:=hA.tag
 have hlt:i<s.next:=hA.lt
 have hI:CInv c s Hs t:=hA.inv
 have hb:=Zgr hA (by rw[htag];exact hgr.1) (by rw[htag];omega)
 have hi0:i≠0:=by have:=hI.cnt.pos;omega
 have hD:Deaf t i=0:=by
  rw[Zfc hA (by rw[htag];omega),htag]
  rcases hg with ⟨e,_⟩ | e<;>rw[e]<;>rfl
 have hr:=Zcx hx (mkA c.W) w
 have hes:seen p fr.fn (#[extE f]++#[⟨.mark (.releaseMerge (mkA c.W)),false,true⟩])=#[⟨.mark (.releaseMerge (mkA c.W)),false,true⟩]:=ZcR fun x hx=>by simp at hx;subst hx;exact⟨rfl,by simp⟩
 have hu:Zbl i fr #[⟨.mark (.releaseMerge (mkA c.W)),false,true⟩]=#[{ g:=i,fn:=fr.fn,pos:=fr.place,act:=.mark (.releaseMerge (mkA c.W)) }]:=by simp[Zbl,ofEvents_eq,MemAct.ofEvent]
 have hcnt:Cnt c { s with tag:=upd s.tag i [20] }:=by
  rcases hg with ⟨e,hn⟩ | e
  ·exact(hI.cnt.same1_20 (l:=[20]) hlt hb (by rw[htag];exact e) rfl hn trivial).1
  ·exact(hI.cnt.same19_20 (l:=[20]) hlt hb (by rw[htag];exact e) rfl trivial).1
 have htk:Zeo { s with tag:=upd s.tag i [20] }↔Zeo s:=by
  constructor
  ·rintro⟨j,h1,h2⟩
   by_cases e:j=i
   ·subst e;simp only[upd_same,cd]at h2;simp at h2
   ·simp only[upd_ne _ _ e]at h2;exact⟨j,h1,h2⟩
  ·rintro⟨j,h1,h2⟩
   by_cases e:j=i
   ·subst e;rw[htag]at h2;omega
   ·exact⟨j,h1,by simp only[upd_ne _ _ e];exact h2⟩
 refine⟨nx ZaC,cs,w,H.tagged [20],{ s with tag:=upd s.tag i [20] },Hs,#[⟨.mark (.releaseMerge (mkA c.W)),false,true⟩],?_,?_,?_,fun j=>rfl,rfl,Nat.le_refl _,.inr fun j hj=>?_,.inr ⟨by show cHsh _;simp[Hp.tagged,cHsh,cd],hG _ _ ⟨rfl,rfl⟩⟩⟩
 ·exact(ZbF (P:=p) ha hr).trans (by rw[hes])
 ·rw[hu]
  refine⟨Nat.le_refl _,fun _ _ _ _=>rfl,hA.leS,fun b x h=>.inr ⟨x,.inr h,fun _=>rfl⟩,.refl w,?_,?_,?_,?_⟩
  ·exact ZlV
  ·exact ZlW
  ·intro op hop
   simp only[List.mem_toArray,List.mem_singleton]at hop
   rw[hop]
   exact hA.leS.lt hI.atW
  ·have tr1:=Tr.release ok.ne hI.tr (y:={ g:=i,fn:=fr.fn,pos:=fr.place,act:=.mark (.releaseMerge (mkA c.W)) }) rfl hD
   refine⟨hcnt,tr1.sub (fun j hj=>?_) (fun _ h=>h),fun j hj hcd=>?_,fun h40=>?_,?_⟩
   ·unfold Zcf at hj ⊢
    simp only at hj
    by_cases e:j=i
    ·exact .inr e
    ·rw[upd_ne _ _ e]at hj;exact .inl hj
   ·have:=Zed (i:=i) (l:=[20]) (es:=#[⟨.mark (.releaseMerge (mkA c.W)),false,true⟩]) (fn:=fr.fn) (pos:=fr.place) hI.deaf (fun _=>by rw[hD];rfl) hj hcd
    rw[<-hu]
    exact this
   ·simp only[upd_ne _ _ (Ne.symm hi0)]at h40
    have:=hI.cnt.over (by omega) hb hlt
    rw[htag]at this;rw[this]at hgr;simp[cd]at hgr
   ·exact hI.heap.imp (fun ⟨a,b⟩=>⟨htk.2 a,b⟩) fun ⟨a,Hl,b,cc,d⟩=>⟨fun h=>a (htk.1 h),Hl,b,cc,d⟩
 ·rw[hu]
  exact⟨hA.le,hA.dis,fun b x h=>.inr ⟨x,.inl h,fun _=>rfl⟩,hA.perm.own fun op hop=>.inl (by simp only[List.mem_toArray,List.mem_singleton]at hop;rw[hop])⟩
 ·have hj:cBlk s j:=hj
  show cBlk _ j
  unfold cBlk at hj ⊢
  have:j≠i:=by rintro rfl;rw[htag]at hj;omega
  simp only[upd_ne _ _ this]
  exact hj
end
end Go.LL
end
section
namespace Go.LL
open Go.Conc
open Go.ConcN (sumTo upd sumTo_upd upd_ne upd_same)
section
variable  {p:Program}{c:Cx}{i:Nat}{H:Hp}{s:Ts}{f:FuncId}{wk nr:Bool}
def wgv (v wt:Nat):Nat:=v * 4294967296+wt
theorem Zfd {Hs:Hp}{t:Trace}{w:World}(hA:Ahead (team p c) i H s Hs t w):w.cell? ⟨c.W,0,none⟩=some (.int .u64 (wgv s.wg.v s.wg.wt:Nat))∧w.frozen? ⟨c.W,0,none⟩=false∧w.cell? ⟨c.W,1,none⟩=some (.int .u32 (s.wg.wm:Nat))∧w.frozen? ⟨c.W,1,none⟩=false:=by
 obtain⟨h1,h2⟩:=ZdR (off:=0) (v:=.int .u64 (wgv s.wg.v s.wg.wt:Nat)) (wW hA) rfl
 obtain⟨h3,h4⟩:=ZdR (off:=1) (v:=.int .u32 (s.wg.wm:Nat)) (wW hA) rfl
 exact⟨h1,h2,h3,h4⟩
theorem Zi1 {z:Int}(h1:0<=z)(h2:z<=18446744073709551615):IntKind.u64.wrap z=z:=by
 simp only[IntKind.wrap,IntKind.bits,IntKind.signed]
 simp
 omega
theorem wrap64u' {z:Int}(h1:18446744073709551616<=z)(h2:z<=36893488147419103231):IntKind.u64.wrap z=z-18446744073709551616:=by
 simp only[IntKind.wrap,IntKind.bits,IntKind.signed]
 simp
 omega
theorem Cnt.vsmall (ok:c.Ok)(h:Cnt c s):s.wg.v<=100000001∧s.wg.wt<=1:=by
 have h1:=h.ct_le (g:=cW) (fun n=>Ziq _) rfl (fun n hn=>by simp[cW,one];omega)
 have h3:=h.num
 have h4:=ok.small
 have h5:mP (cd (s.tag 0))<=1:=Ziq _
 obtain⟨g1,g2,g3,g4,g5,g6⟩:=h.wg
 refine⟨by omega,?_⟩
 by_cases e:cd (s.tag 0)=36
 ·have:=g4 e;omega
 ·have:=g5 e;omega
theorem Zd1 {k:IntKind}(hx:Ext p f (Extern.Atomic.loadT (.int k))){a:Addr}{v:Int}{w:World}(hc:w.cell? a=some (.int k v)) :
  (callFunc f #[.pointer (some a)]).runT p w #[]=(.ok (.value (.int k v)) w,#[extE f]++#[⟨.cell a,false,true⟩]):=by
 refine hx.val ?_ ?_
 ·change Sem.run p (do Extern.Atomic.read (.int k) (<-asAddr (.pointer (some a)))) w=_
  simp[Extern.Atomic.read,asAddr,hc]
 ·change Sem.events p (do Extern.Atomic.read (.int k) (<-asAddr (.pointer (some a)))) w _=_
  simp[Extern.Atomic.read,asAddr,hc,events_load]
theorem ZkL {k:IntKind}(hx:Ext p f Extern.Atomic.storeT){a:Addr}{u:Value}{v:Int}{w:World}(hc:w.cell? a=some u)(hz:w.frozen? a=false) :
  (callFunc f #[.pointer (some a),.int k v]).runT p w #[]=(.ok (.value ZaC) (w.setCell a (.int k v)),#[extE f]++#[⟨.cell a,true,true⟩]):=by
 refine hx.val ?_ ?_
 ·change Sem.run p (do
   store (<-asAddr (.pointer (some a))) (.int k v) .atomic
   pure Extern.Atomic.none_) w=_
  simp[asAddr,hc,hz,run_store p w a (.int k v) .atomic rfl,Extern.Atomic.none_,Result.andThen]
 ·change Sem.events p (do
   store (<-asAddr (.pointer (some a))) (.int k v) .atomic
   pure Extern.Atomic.none_) w _=_
  simp[asAddr,hc,hz,events_store p w _ a (.int k v) .atomic rfl]
theorem Zdj {Hs:Hp}{t:Trace}{w:World}(hA:Ahead (team p c) i (.bare H.gh) s Hs t w)(hg:cHsh H.gh):s.tag i=H.gh∧CInv c s Hs t∧i<s.next∧c.base<=i∧i≠0∧Deaf t i=df (cd H.gh):=by
 have htag:s.tag i=H.gh:=hA.tag
 have hI:CInv c s Hs t:=hA.inv
 unfold cHsh at hg
 have hb:=Zgr hA (by rw[htag];omega) (by rw[htag];omega)
 exact⟨htag,hI,hA.lt,hb,by have:=hI.cnt.pos;omega,by rw[Zfc hA (by rw[htag];omega),htag]⟩
theorem Zjo (ok:c.Ok)(hx:Ext p f (fun _=>do mark .disable;pure ZaC)){vs:Array Value}(hg:H.gh=[20]):ShOp ((team p c).prgW i) (callFunc f vs) wk nr H (fun v H'=>v=ZaC∧H'=H.tagged [21]):=by
 refine ZdY ok (by rw[hg];simp[cHsh,cd]) fun s Hs t w hA=>.inr ⟨ZaC,[21],?_,.inl ⟨by simp[cHsh,cd],rfl,rfl⟩⟩
 obtain⟨htag,hI,hlt,hb,hi0,hD⟩:=Zdj hA (by rw[hg];simp[cHsh,cd])
 rw[hg]at htag hD
 obtain⟨e1,e2⟩:=Zfv (C:=c.toTC) (i:=i) (d:=Deaf t i) (m:=.disable) (.inl rfl)
 refine Step1.ofM ok hA (Zc9 (by simp) hx vs w) (fun fn _=>Zcw (by simp) fn) (.inl ⟨rfl,rfl⟩) (hI.cnt.same20_21 (l:=[21]) hlt hb (by rw[htag];rfl) rfl trivial).1 ⟨e1,e2,?_⟩ (.inr id) (ZbD (by rw[htag];simp[cd]) (by rw[htag];simp[cd])) (by rw[htag];simp[cd]) (by simp[cd]) (fun _=>.inl (by rw[htag];simp[cd]))
 rw[hD];rfl
theorem hsh_add (ok:c.Ok)(hx:Ext p f (Extern.Atomic.update (Op.intArith .add) .u64 true))(hg:H.gh=[21]) :
  ShOp ((team p c).prgW i) (callFunc f #[.pointer (some (mkA c.W)),.int .u64 18446744069414584320]) wk nr H (fun v H'=>∃ n wt,n<=100000000∧wt<=1∧v=.int .u64 (wgv n wt:Nat) ∧
   (((n≠0∨wt=0)∧H'=H.tagged (lv 1))∨(n=0∧wt=1∧H'=H.tagged [22]))):=by
 refine ZdY ok (by rw[hg];simp[cHsh,cd]) fun s Hs t w hA=>.inr ?_
 obtain⟨htag,hI,hlt,hb,hi0,hD⟩:=Zdj hA (by rw[hg];simp[cHsh,cd])
 rw[hg]at htag hD
 replace hD:Deaf t i=1:=hD
 obtain⟨hc,hz,_⟩:=Zfd hA
 obtain⟨hv,hwt⟩:=hI.cnt.vsmall ok
 have hv1:1<=s.wg.v:=by
  have h1:=Ct.le cW s.tag hlt
  have h2:cW (cd (s.tag i))=1:=by rw[htag];rfl
  have:=hI.cnt.wg.v1
  omega
 have hr:=Zi9 hx (d:=18446744069414584320) hc hz
 have hval:IntKind.u64.wrap (((wgv s.wg.v s.wg.wt:Nat):Int)+18446744069414584320)=((wgv (s.wg.v-1) s.wg.wt:Nat):Int):=by
  unfold wgv
  rw[wrap64u']<;>omega
 rw[hval]at hr
 obtain⟨n1,n2,n3⟩:=Za1 (i:=i) (d:=Deaf t i) (C:=c.toTC) (Zge (off:=0) (.inr rfl)) (by omega)
 have nb:∀ {l:List Nat},¬ cBlk s i∨l=s.tag i:=ZbD (by rw[htag];simp[cd]) (by rw[htag];simp[cd])
 by_cases hk:s.wg.v=1∧s.wg.wt=1
 ·refine⟨_,[22],Step1.ofW (y':={ s.wg with v:=s.wg.v-1 }) ok hA hr (fun fn _=>Zdt) (.inr ⟨0,_,rfl,rfl⟩) (hI.cnt.doneL (l:=[22]) hlt hb (by rw[htag];rfl) rfl trivial hk) ⟨n1,n2,by rw[n3,hD];rfl⟩ (.inr id) nb (by rw[htag];simp[cd]) (by simp[cd]) (fun _=>.inl (by rw[htag];simp[cd])),
   .inl ⟨by simp[cHsh,cd],s.wg.v-1,s.wg.wt,by omega,hwt,rfl,.inr ⟨by omega,hk.2,rfl⟩⟩⟩
 ·refine⟨_,[0],Step1.ofW (y':={ s.wg with v:=s.wg.v-1 }) ok hA hr (fun fn _=>Zdt) (.inr ⟨0,_,rfl,rfl⟩) (hI.cnt.doneN hlt hb (by rw[htag];rfl) hk) ⟨n1,n2,by rw[n3,hD];rfl⟩ (.inr id) nb (by rw[htag];simp[cd]) (by simp[cd]) (fun _=>.inl (by rw[htag];simp[cd])),
   .inr ⟨rfl,s.wg.v-1,s.wg.wt,by omega,hwt,rfl,.inl ⟨by omega,rfl⟩⟩⟩
theorem Zg0 (h:Cnt c s)(hlt:i<s.next)(hcl:cL (cd (s.tag i))=1):s.wg.v=0∧s.wg.wt=1∧s.wg.wm=0:=by
 have h1:=Ct.le cL s.tag hlt
 obtain⟨g1,g2,g3,g4,g5,g6⟩:=h.wg
 by_cases e:cd (s.tag 0)=36
 ·have:=g4 e;omega
 ·have:=g5 e;omega
theorem hsh_load (ok:c.Ok)(hx:Ext p f (Extern.Atomic.loadT (.int .u64)))(hg:H.gh=[22]) :
  ShOp ((team p c).prgW i) (callFunc f #[.pointer (some (mkA c.W))]) wk nr H (fun v H'=>v=.int .u64 (1:Nat)∧H'=H.tagged [23]):=by
 refine ZdY ok (by rw[hg];simp[cHsh,cd]) fun s Hs t w hA=>.inr ?_
 obtain⟨htag,hI,hlt,hb,hi0,hD⟩:=Zdj hA (by rw[hg];simp[cHsh,cd])
 rw[hg]at htag hD
 replace hD:Deaf t i=1:=hD
 obtain⟨hc,hz,_⟩:=Zfd hA
 obtain⟨h1,h2,h3⟩:=Zg0 hI.cnt hlt (by rw[htag];rfl)
 rw[h1,h2]at hc
 obtain⟨n1,n2,n3⟩:=Za1 (i:=i) (d:=Deaf t i) (C:=c.toTC) (ZeR (off:=0) (wr:=false) (.inr rfl)) (by omega)
 refine⟨_,[23],Step1.ofW ok hA (Zd1 hx hc) (fun fn _=>ZcQ) (.inl ⟨rfl,rfl⟩) (hI.cnt.same22_23 (l:=[23]) hlt hb (by rw[htag];rfl) rfl trivial).1 ⟨n1,n2,by rw[n3,hD];rfl⟩ (.inr id) (ZbD (by rw[htag];simp[cd]) (by rw[htag];simp[cd])) (by rw[htag];simp[cd]) (by simp[cd]) (fun _=>.inl (by rw[htag];simp[cd])),
  .inl ⟨by simp[cHsh,cd],rfl,rfl⟩⟩
theorem Zmx (ok:c.Ok)(hx:Ext p f Extern.Atomic.storeT)(hg:H.gh=[23]) :
  ShOp ((team p c).prgW i) (callFunc f #[.pointer (some (mkA c.W)),.int .u64 (0:Nat)]) wk nr H (fun v H'=>v=ZaC∧H'=H.tagged [24]):=by
 refine ZdY ok (by rw[hg];simp[cHsh,cd]) fun s Hs t w hA=>.inr ?_
 obtain⟨htag,hI,hlt,hb,hi0,hD⟩:=Zdj hA (by rw[hg];simp[cHsh,cd])
 rw[hg]at htag hD
 replace hD:Deaf t i=1:=hD
 obtain⟨hc,hz,_⟩:=Zfd hA
 obtain⟨h1,h2,h3⟩:=Zg0 hI.cnt hlt (by rw[htag];rfl)
 obtain⟨n1,n2,n3⟩:=Za1 (i:=i) (d:=Deaf t i) (C:=c.toTC) (ZeR (off:=0) (wr:=true) (.inr rfl)) (by omega)
 refine⟨_,[24],Step1.ofW (y':={ s.wg with wt:=0 }) ok hA (ZkL hx hc hz) (fun fn _=>ZcQ) (.inr ⟨0,_,rfl,by rw[h1];rfl⟩) (hI.cnt.store0 (l:=[24]) hlt hb (by rw[htag];rfl) rfl trivial) ⟨n1,n2,by rw[n3,hD];rfl⟩ (.inr id) (ZbD (by rw[htag];simp[cd]) (by rw[htag];simp[cd])) (by rw[htag];simp[cd]) (by simp[cd]) (fun _=>.inl (by rw[htag];simp[cd])),
  .inl ⟨by simp[cHsh,cd],rfl,rfl⟩⟩
theorem Zk2 (ok:c.Ok)(hx:Ext p f Extern.Sync.semrelease){vs:Array Value}(hvs:vs[0]? = some (.pointer (some ⟨c.W,1,none⟩)))(hg:H.gh=[24]) :
  ShOp ((team p c).prgW i) (callFunc f vs) true nr H (fun v H'=>v=ZaC∧H'=H.tagged (lv 1)):=by
 refine ZdY ok (by rw[hg];simp[cHsh,cd]) fun s Hs t w hA=>.inr ?_
 obtain⟨htag,hI,hlt,hb,hi0,hD⟩:=Zdj hA (by rw[hg];simp[cHsh,cd])
 rw[hg]at htag hD
 replace hD:Deaf t i=1:=hD
 obtain⟨_,_,hc,hz⟩:=Zfd hA
 have hwm:s.wg.wm=0:=by
  have h1:=Ct.le cE s.tag hlt
  have h2:cE (cd (s.tag i))=1:=by rw[htag];rfl
  obtain⟨g1,g2,g3,g4,g5,g6⟩:=hI.cnt.wg
  by_cases e:cd (s.tag 0)=36
  ·have:=g4 e;omega
  ·have:=g5 e;omega
 obtain⟨n1,n2,n3⟩:=Zfu (C:=c.toTC) (i:=i) (d:=Deaf t i) (b:=c.W) (off:=1) (.inr rfl)
 have hr:=ZgI hx hvs hc hz
 have hk:IntKind.u32.wrap (((s.wg.wm:Nat):Int)+1)=((s.wg.wm+1:Nat):Int):=by rw[hwm];rfl
 rw[hk]at hr
 refine⟨_,[0],Step1.ofW (y':={ s.wg with wm:=s.wg.wm+1 }) ok hA hr (fun fn _=>Zd0) (.inr ⟨1,_,rfl,rfl⟩) (hI.cnt.wgrel hlt hb (by rw[htag];rfl)) ⟨n1,n2,by rw[n3,hD];rfl⟩ (.inl rfl) (ZbD (by rw[htag];simp[cd]) (by rw[htag];simp[cd])) (by rw[htag];simp[cd]) (by simp[cd]) (fun _=>.inl (by rw[htag];simp[cd])),
  .inr ⟨rfl,rfl,rfl⟩⟩
theorem Zmm (hx:Ext p f (fun _=>do mark .enable;pure ZaC)){vs:Array Value}(hg:H.gh=lv 1):ShOp ((team p c).prgW i) (callFunc f vs) wk nr H (fun v H'=>v=ZaC∧H'=H.tagged (lv 0)):=
 ZkK hg (fun w=>Zc9 (by simp) hx vs w) (fun fn=>Zcw (by simp) fn) (by simp[Event.mute]) ⟨rfl,rfl⟩
theorem Zbi {Hs:Hp}{t:Trace}{w:World}(hA:Ahead (team p c) 0 H s Hs t w)(hg:30<=cd H.gh):s.tag 0=H.gh∧CInv c s Hs t∧Deaf t 0=df (cd H.gh):=by
 have htag:s.tag 0=H.gh:=hA.tag
 exact⟨htag,hA.inv,by rw[Zfc hA (by rw[htag];omega),htag]⟩
theorem Zd8 (ok:c.Ok){m:Mark}(hm:m=.disable∨m=.enable)(hx:Ext p f (fun _=>do mark m;pure ZaC)){vs:Array Value}{l:List Nat}(hg:30<=cd H.gh∧cd H.gh<=39∧cd H.gh≠36)(hl:30<=cd l∧cd l<=39)
  (hd:deafBehind (df (cd H.gh)) #[⟨.mark m,false,true⟩]=df (cd l)) (hcnt:∀ s:Ts,Cnt c s->s.tag 0=H.gh->Cnt c { s with tag:=upd s.tag 0 l }):ShOp ((team p c).prgM) (callFunc f vs) wk nr H (fun v H'=>v=ZaC∧H'=H.tagged l):=by
 have hme:∀ g,m≠.extern g:=by rcases hm with rfl | rfl<;>simp
 refine Zb8 ok hg.1 fun s Hs t w hA=>.inr ⟨ZaC,l,?_,hl.1,rfl,rfl⟩
 obtain⟨htag,hI,hD⟩:=Zbi hA hg.1
 obtain⟨e1,e2⟩:=Zfv (C:=c.toTC) (i:=0) (d:=Deaf t 0) (m:=m) (by rcases hm with rfl | rfl<;>simp)
 refine Step1.ofM ok hA (Zc9 hme hx vs w) (fun fn _=>Zcw hme fn) (.inl ⟨rfl,rfl⟩) (hcnt s hI.cnt htag) ⟨e1,e2,?_⟩ (.inr id) (ZbD (by rw[htag];omega) (by rw[htag];omega)) (by rw[htag];omega) (by omega) (fun e=>.inl (by rw[htag];omega))
 rw[hD,hd,if_neg (by omega)]
theorem Zfa (ok:c.Ok)(hx:Ext p f (fun _=>do mark .disable;pure ZaC)){vs:Array Value}{n:Nat}(hg:H.gh=[30,n]):ShOp ((team p c).prgM) (callFunc f vs) wk nr H (fun v H'=>v=ZaC∧H'=H.tagged [31,n]):=
 Zd8 ok (.inl rfl) hx (by rw[hg];simp[cd]) (by simp[cd]) (by rw[hg];rfl) fun s h ht=>h.m_same30_31 (l:=[31,n]) (by rw[ht,hg];rfl) rfl fun k m e=>by simp at e;rw[e.2.symm];exact h.cntN 30 n (by omega) (ht.trans hg)
theorem Zf2 (ok:c.Ok)(hx:Ext p f (fun _=>do mark .enable;pure ZaC)){vs:Array Value}{n:Nat}(hg:H.gh=[32,n]):ShOp ((team p c).prgM) (callFunc f vs) wk nr H (fun v H'=>v=ZaC∧H'=H.tagged [33,n]):=
 Zd8 ok (.inr rfl) hx (by rw[hg];simp[cd]) (by simp[cd]) (by rw[hg];rfl) fun s h ht=>h.m_same32_33 (l:=[33,n]) (by rw[ht,hg];rfl) rfl fun k m e=>by simp at e;rw[e.2.symm];exact h.cntN 32 n (by omega) (ht.trans hg)
theorem ZeK (ok:c.Ok)(hx:Ext p f (fun _=>do mark .disable;pure ZaC)){vs:Array Value}(hg:H.gh=[30,c.K]):ShOp ((team p c).prgM) (callFunc f vs) wk nr H (fun v H'=>v=ZaC∧H'=H.tagged [34]):=
 Zd8 ok (.inl rfl) hx (by rw[hg];simp[cd]) (by simp[cd]) (by rw[hg];rfl) fun s h ht=>h.m_same30_34 (l:=[34]) (by rw[ht,hg];rfl) rfl (by have:=h.cntN 30 c.K (by omega) (ht.trans hg);have:=h.num;omega) fun v e=>by simp at e
theorem Zc2 (ok:c.Ok)(hx:Ext p f (fun _=>do mark .enable;pure ZaC)){vs:Array Value}(hg:H.gh=[38]):ShOp ((team p c).prgM) (callFunc f vs) wk nr H (fun v H'=>v=ZaC∧H'=H.tagged [39]):=
 Zd8 ok (.inr rfl) hx (by rw[hg];simp[cd]) (by simp[cd]) (by rw[hg];rfl) fun s h ht=>h.m_same38_39 (l:=[39]) (by rw[ht,hg];rfl) rfl
theorem main_add (ok:c.Ok)(hx:Ext p f (Extern.Atomic.update (Op.intArith .add) .u64 true)){n:Nat}(hg:H.gh=[31,n]) :
  ShOp ((team p c).prgM) (callFunc f #[.pointer (some (mkA c.W)),.int .u64 (4294967296:Nat)]) wk nr H (fun v H'=>∃ m,m<=100000001∧v=.int .u64 (wgv (m+1) 0:Nat)∧H'=H.tagged [32,n]):=by
 refine Zb8 ok (by rw[hg];simp[cd]) fun s Hs t w hA=>.inr ?_
 obtain⟨htag,hI,hD⟩:=Zbi hA (by rw[hg];simp[cd])
 rw[hg]at htag hD
 replace hD:Deaf t 0=1:=hD
 obtain⟨hc,hz,_⟩:=Zfd hA
 obtain⟨hv,_⟩:=hI.cnt.vsmall ok
 have hwt:s.wg.wt=0:=(hI.cnt.wg.free (by rw[htag];simp[cd])).1
 have hr:=Zi9 hx (d:=((4294967296:Nat):Int)) hc hz
 have hval:IntKind.u64.wrap (((wgv s.wg.v s.wg.wt:Nat):Int)+((4294967296:Nat):Int))=((wgv (s.wg.v+1) s.wg.wt:Nat):Int):=by
  unfold wgv
  rw[Zi1]<;>omega
 rw[hval]at hr
 obtain⟨n1,n2,n3⟩:=Za1 (i:=0) (d:=Deaf t 0) (C:=c.toTC) (Zge (off:=0) (.inr rfl)) (by omega)
 refine⟨_,[32,n],Step1.ofW (y':={ s.wg with v:=s.wg.v+1 }) ok hA hr (fun fn _=>Zdt) (.inr ⟨0,_,rfl,rfl⟩) (hI.cnt.m_add (l:=[32,n]) (by rw[htag];rfl) rfl fun k m e=>?_) ⟨n1,n2,by rw[n3,hD];rfl⟩ (.inr id) (ZbD (by rw[htag];simp[cd]) (by rw[htag];simp[cd])) (by rw[htag];simp[cd]) (by simp[cd]) (fun e=>by simp[cd]at e;exact .inl (by rw[htag];simp[cd])),
  by simp[cd],s.wg.v,hv,by rw[hwt],rfl⟩
 simp at e;rw[e.2.symm];exact hI.cnt.cntN 31 n (by omega) htag
theorem ZiD (ok:c.Ok){mk:Addr->Mark}(hmk:mk=.read∨mk=.write)(hx:Ext p f (Extern.Race.marked mk))(hg:(∃ n,H.gh=[32,n])∨H.gh=[36]) :
  ShOp ((team p c).prgM) (callFunc f #[.pointer (some ⟨c.W,1,none⟩)]) wk nr H (fun v H'=>v=ZaC∧H'=H):=by
 have hcd:cd H.gh=32∨cd H.gh=36:=by rcases hg with ⟨n,e⟩ | e<;>rw[e]<;>simp[cd]
 refine Zb8 ok (by omega) fun s Hs t w hA=>?_
 obtain⟨htag,hI,hD⟩:=Zbi hA (by omega)
 have hcnt:Cnt c { s with tag:=upd s.tag 0 H.gh }:=by rw[<-htag,Zh9];exact hI.cnt
 obtain⟨e1,e2⟩:=Zfv (C:=c.toTC) (i:=0) (d:=Deaf t 0) (m:=mk ⟨c.W,1,none⟩) (.inr (.inr ⟨rfl,1,by rcases hmk with rfl | rfl<;>simp⟩))
 have hm:∀ g,mk ⟨c.W,1,none⟩≠.extern g:=by rcases hmk with rfl | rfl<;>simp
 refine .inr ⟨ZaC,H.gh,?_,by omega,rfl,ZcN H⟩
 refine Step1.ofM ok hA (Zcx hx _ w) (fun fn _=>Zcw hm fn) (.inl ⟨rfl,rfl⟩) hcnt ⟨e1,e2,?_⟩ (.inr id) (.inr htag.symm) (by rw[htag];omega) (by omega) (fun e=>.inl (by rw[htag];omega))
 rw[hD,if_neg (by omega)]
 rcases hmk with rfl | rfl<;>rfl
end
end Go.LL
end
