import Derived.Test.YthmnpenamnoniaaGreatDoorP09
import Derived.Test.YthmnpenamnoniaaGreatDoorP20
import Derived.Conc.Own2
import Derived.Conc.SmallLaws
set_option linter.all false
section
namespace Go.LL
open Go.Conc
open Go.ConcN (sumTo upd sumTo_upd upd_ne upd_same)
section
variable  {p:Program}{c:Cx}{i:Nat}{H:Hp}{s:Ts}{f:FuncId}{wk nr:Bool}
theorem Zml (ok:c.Ok)(hx:Ext p f (Extern.Atomic.loadT (.int .u64))){l0:List Nat}(hg:H.gh=34 :: l0) :
  ShOp ((team p c).prgM) (callFunc f #[.pointer (some (mkA c.W))]) wk nr H (fun v H'=>∃ n,n<=100000001∧v=.int .u64 (wgv n 0:Nat)∧(∀ v0,l0=[v0]->n<v0)∧((n=0∧H'=H.tagged [38])∨(n≠0∧H'=H.tagged [35,n]))):=by
 refine Zb8 ok (by rw[hg];simp[cd]) fun s Hs t w hA=>.inr ?_
 obtain⟨htag,hI,hD⟩:=Zbi hA (by rw[hg];simp[cd])
 rw[hg]at htag hD
 replace hD:Deaf t 0=1:=hD
 obtain⟨hc,hz,_⟩:=Zfd hA
 obtain⟨hv,_⟩:=hI.cnt.vsmall ok
 have hwt:s.wg.wt=0:=(hI.cnt.wg.free (by rw[htag];simp[cd])).1
 rw[hwt]at hc
 have hlt:∀ v0,l0=[v0]->s.wg.v<v0:=fun v0 e=>(hI.cnt.saysM v0).2 (by rw[htag,e])
 obtain⟨n1,n2,n3⟩:=Za1 (i:=0) (d:=Deaf t 0) (C:=c.toTC) (ZeR (off:=0) (wr:=false) (.inr rfl)) (by omega)
 have hmore:s.more=0:=hI.cnt.wg.more0 (by rw[htag];simp[cd])
 by_cases h0:s.wg.v=0
 ·refine⟨_,[38],Step1.ofW ok hA (Zd1 hx hc) (fun fn _=>ZcQ) (.inl ⟨rfl,rfl⟩) (hI.cnt.m_seen0 (l:=[38]) (by rw[htag];rfl) rfl h0 hmore) ⟨n1,n2,by rw[n3,hD];rfl⟩ (.inr id) (ZbD (by rw[htag];simp[cd]) (by rw[htag];simp[cd])) (by rw[htag];simp[cd]) (by simp[cd]) (fun e=>.inl (by rw[htag];simp[cd])),
   by simp[cd],s.wg.v,by omega,rfl,hlt,.inl ⟨h0,rfl⟩⟩
 ·refine⟨_,[35,s.wg.v],Step1.ofW ok hA (Zd1 hx hc) (fun fn _=>ZcQ) (.inl ⟨rfl,rfl⟩) (hI.cnt.m_seenN (l:=[35,s.wg.v]) (by rw[htag];rfl) rfl h0 fun v e=>by simp at e;omega) ⟨n1,n2,by rw[n3,hD];rfl⟩ (.inr id) (ZbD (by rw[htag];simp[cd]) (by rw[htag];simp[cd])) (by rw[htag];simp[cd]) (by simp[cd]) (fun e=>.inl (by rw[htag];simp[cd])),
   by simp[cd],s.wg.v,by omega,rfl,hlt,.inr ⟨h0,rfl⟩⟩
theorem main_cas (ok:c.Ok)(hx:Ext p f (Extern.Atomic.casT (.int .u64))){n:Nat}(hn:n≠0)(hg:H.gh=[35,n]) :
  ShOp ((team p c).prgM) (callFunc f #[.pointer (some (mkA c.W)),.int .u64 (wgv n 0:Nat),.int .u64 (wgv n 1:Nat)]) wk nr H (fun v H'=>(v=.bool true∧H'=H.tagged [36])∨(v=.bool false∧H'=H.tagged [34,n])):=by
 refine Zb8 ok (by rw[hg];simp[cd]) fun s Hs t w hA=>.inr ?_
 obtain⟨htag,hI,hD⟩:=Zbi hA (by rw[hg];simp[cd])
 rw[hg]at htag hD
 replace hD:Deaf t 0=1:=hD
 obtain⟨hc,hz,_⟩:=Zfd hA
 obtain⟨hv,_⟩:=hI.cnt.vsmall ok
 have hwt:s.wg.wt=0:=(hI.cnt.wg.free (by rw[htag];simp[cd])).1
 rw[hwt]at hc
 have hle:s.wg.v<=n:=(hI.cnt.saysM n).1 htag
 by_cases h0:s.wg.v=n
 ·obtain⟨n1,n2,n3⟩:=Za1 (i:=0) (d:=Deaf t 0) (C:=c.toTC) (Zge (off:=0) (.inr rfl)) (by omega)
  subst h0
  refine⟨_,[36],Step1.ofW (y':={ s.wg with wt:=1 }) ok hA (ZgL hx hc hz) (fun fn _=>Zdt) (.inr ⟨0,_,rfl,rfl⟩) (hI.cnt.m_wait (l:=[36]) (by rw[htag];rfl) rfl hn) ⟨n1,n2,by rw[n3,hD];rfl⟩ (.inr id) (ZbD (by rw[htag];simp[cd]) (by rw[htag];simp[cd])) (by rw[htag];simp[cd]) (by simp[cd]) (fun e=>.inl (by rw[htag];simp[cd])),
   by simp[cd],.inl ⟨rfl,rfl⟩⟩
 ·obtain⟨n1,n2,n3⟩:=Za1 (i:=0) (d:=Deaf t 0) (C:=c.toTC) (ZeR (off:=0) (wr:=false) (.inr rfl)) (by omega)
  refine⟨_,[34,n],Step1.ofW ok hA (ZfN hx hc hz fun e=>h0 ?_) (fun fn _=>ZcQ) (.inl ⟨rfl,rfl⟩) (hI.cnt.m_miss (l:=[34,n]) (by rw[htag];rfl) rfl fun v e=>by simp at e;omega) ⟨n1,n2,by rw[n3,hD];rfl⟩ (.inr id) (ZbD (by rw[htag];simp[cd]) (by rw[htag];simp[cd])) (by rw[htag];simp[cd]) (by simp[cd]) (fun e=>.inl (by rw[htag];simp[cd])),
   by simp[cd],.inr ⟨rfl,rfl⟩⟩
  have e:wgv s.wg.v 0=wgv n 0:=by exact_mod_cast e
  unfold wgv at e;omega
theorem main_sem (ok:c.Ok)(hx:Ext p f Extern.Sync.semacquire){vs:Array Value}(hvs:vs[0]? = some (.pointer (some ⟨c.W,1,none⟩)))(hg:H.gh=[36]) :
  ShOp ((team p c).prgM) (callFunc f vs) wk nr H (fun v H'=>v=ZaC∧H'=H.tagged [37]):=by
 refine Zb8 ok (by rw[hg];simp[cd]) fun s Hs t w hA=>?_
 obtain⟨htag,hI,hD⟩:=Zbi hA (by rw[hg];simp[cd])
 rw[hg]at htag hD
 replace hD:Deaf t 0=1:=hD
 obtain⟨_,_,hc,hz⟩:=Zfd hA
 by_cases h0:s.wg.wm=0
 ·rw[h0]at hc
  exact .inl ⟨ZgJ hx hvs hc,.inr ⟨by rw[htag];rfl,h0⟩⟩
 ·refine .inr ⟨ZaC,[37],?_,by simp[cd],rfl,rfl⟩
  obtain⟨n1,n2,n3⟩:=Zfu (C:=c.toTC) (i:=0) (d:=Deaf t 0) (b:=c.W) (off:=1) (.inr rfl)
  have hr:=ZgK (rest:=#[]) hx hvs hc hz (by exact_mod_cast h0)
  have hk:((s.wg.wm:Nat):Int)-1=((s.wg.wm-1:Nat):Int):=by omega
  rw[hk]at hr
  refine Step1.ofW (y':={ s.wg with wm:=s.wg.wm-1 }) ok hA hr (fun fn _=>Zd0) (.inr ⟨1,_,rfl,rfl⟩) (hI.cnt.m_woken (l:=[37]) (by rw[htag];rfl) rfl h0) ⟨n1,n2,by rw[n3,hD];rfl⟩ (.inr fun e=>absurd e h0) ?_ (by rw[htag];simp[cd]) (by simp[cd]) (fun e=>.inl (by rw[htag];simp[cd]))
  left
  rintro(⟨e,_⟩ | ⟨_,e⟩)
  ·rw[htag]at e;simp[cd]at e
  ·exact h0 e
theorem Zk0 (ok:c.Ok)(hx:Ext p f (Extern.Atomic.loadT (.int .u64)))(hg:H.gh=[37]) :
  ShOp ((team p c).prgM) (callFunc f #[.pointer (some (mkA c.W))]) wk nr H (fun v H'=>v=.int .u64 (0:Nat)∧H'=H.tagged [38]):=by
 refine Zb8 ok (by rw[hg];simp[cd]) fun s Hs t w hA=>.inr ?_
 obtain⟨htag,hI,hD⟩:=Zbi hA (by rw[hg];simp[cd])
 rw[hg]at htag hD
 replace hD:Deaf t 0=1:=hD
 obtain⟨hc,hz,_⟩:=Zfd hA
 have hwt:s.wg.wt=0:=(hI.cnt.wg.free (by rw[htag];simp[cd])).1
 have hv:s.wg.v=0:=hI.cnt.wg.zero (by rw[htag];simp[cd])
 rw[hwt,hv]at hc
 obtain⟨n1,n2,n3⟩:=Za1 (i:=0) (d:=Deaf t 0) (C:=c.toTC) (ZeR (off:=0) (wr:=false) (.inr rfl)) (by omega)
 exact⟨_,[38],Step1.ofW ok hA (Zd1 hx hc) (fun fn _=>ZcQ) (.inl ⟨rfl,rfl⟩) (hI.cnt.m_same37_38 (l:=[38]) (by rw[htag];rfl) rfl) ⟨n1,n2,by rw[n3,hD];rfl⟩ (.inr id) (ZbD (by rw[htag];simp[cd]) (by rw[htag];simp[cd])) (by rw[htag];simp[cd]) (by simp[cd]) (fun e=>.inl (by rw[htag];simp[cd])),
   by simp[cd],rfl,rfl⟩
theorem Zkj (ok:c.Ok)(hx:Ext p f (Extern.Race.marked .acquire))(hg:H.gh=[39]) :
  ShOp ((team p c).prgM) (callFunc f #[.pointer (some (mkA c.W))]) wk nr H (fun v H'=>v=ZaC∧∃ (l:List Nat) (Hl:Hp),c.PI l Hl∧(∀ j,c.base<=j->j<c.base+c.K->c.need j=true->j∈l)∧(∀ j∈l,c.base<=j∧j<c.base+c.K∧c.need j=true)∧l.Nodup ∧
   Hl.gh=[]∧(H.tagged [40]).Comp Hl∧H'=(H.tagged [40]).join Hl):=by
 intro G fr nx cs hcl ha hG
 refine .shared ⟨by rw[hg];simp,fun s Hs t w hA=>.inl ?_⟩
 obtain⟨htag,hI,hD⟩:=Zbi hA (by rw[hg];simp[cd])
 rw[hg]at htag hD
 replace hD:Deaf t 0=0:=hD
 have hpos:=hI.cnt.pos
 have h0lt:0<s.next:=hI.cnt.next0
 have hlive:c.live s.next 0:=⟨h0lt,.inl rfl⟩
 obtain⟨hHM,hHW⟩:=Zjq ok hA
 have hover:∀ j,c.base<=j->j<s.next->s.tag j=[0]:=fun j h1 h2=>hI.cnt.over (by rw[htag];simp[cd]) h1 h2
 have hmore:s.more=0:=hI.cnt.wg.more0 (by rw[htag];simp[cd])
 have hnum:s.next=c.base+c.K:=by have:=hI.cnt.num;omega
 have hnt:¬ Zeo s:=by
  rintro⟨j,hj,e | e⟩
  ·by_cases hb:c.base<=j
   ·rw[hover j hb hj]at e;simp[cd]at e
   ·rcases Nat.eq_zero_or_pos j with h0 | h0
    ·subst h0;rw[htag]at e;simp[cd]at e
    ·rw[hI.cnt.olds j h0 (by omega)]at e;simp[cd]at e
  ·have:=ZjC hI.cnt hj (by omega)
   subst this
   rw[htag]at e;simp[cd]at e
 obtain⟨Hl0,hHs,hc0,hPI0⟩:=(hI.heap.resolve_left fun h=>hnt h.1).2
 let Hl:Hp:=⟨Hl0.mem,[]⟩
 obtain⟨p1,p2⟩:=ZeA ok hc0
 have hr:=Zcx hx (mkA c.W) w
 have hes:seen p fr.fn (#[extE f]++#[⟨.mark (.acquire (mkA c.W)),false,true⟩])=#[⟨.mark (.acquire (mkA c.W)),false,true⟩]:=ZcR fun x hx=>by simp at hx;subst hx;exact⟨rfl,by simp⟩
 have hu:Zbl 0 fr #[⟨.mark (.acquire (mkA c.W)),false,true⟩]=#[{ g:=0,fn:=fr.fn,pos:=fr.place,act:=.mark (.acquire (mkA c.W)) }]:=by simp[Zbl,ofEvents_eq,MemAct.ofEvent]
 have hpl:∀ b x,Hl b=some x->plOf c Hs b:=by
  intro b x hb
  have hb0:Hl0 b=some x:=hb
  refine⟨⟨x,?_⟩,?_,?_⟩
  ·rw[hHs];exact Hp.join_right hc0 hb0
  ·rintro rfl;rw[p1]at hb0;simp at hb0
  ·rintro rfl;rw[p2]at hb0;simp at hb0
 obtain⟨ta1,ta2,ta3⟩:=hI.tr.all (y:={ g:=0,fn:=fr.fn,pos:=fr.place,act:=.mark (.acquire (mkA c.W)) }) rfl hD rfl fun j h1 h2=>by unfold Zcf;rw[hover j h1 h2];exact .inr rfl
 have hcomp:(H.tagged [40]).Comp Hl:=⟨fun b x y h1 h2=>by
  have h2':Hs b=some y:=by rw[hHs];exact Hp.join_right hc0 h2
  exact hA.dis b x y h1 h2',.inr rfl⟩
 have hgh:((H.tagged [40]).join Hl).gh=[40]:=by simp[Hp.join_gh,Hp.tagged,Hl]
 have hcnt:Cnt c { s with tag:=upd s.tag 0 [40] }:=by
  obtain⟨m1,m2⟩:=hI.cnt.mu.main (more:=s.more) (l:=[40]) h0lt (by rw[htag];simp[cd]) (by simp[cd])
  refine hI.cnt.step h0lt (.inl rfl) s.wg m1 (Nat.le_of_eq m2) (fun _=>rfl) (fun j _ _ _ hS=>⟨hS,Nat.le_refl _⟩) (Wg.same39_40 (l:=[40]) hI.cnt.wg h0lt (by rw[htag];rfl) rfl) (Mu.says_main (by simp[cd])) ⟨fun _ v=>⟨fun e=>by simp at e,fun e=>by simp at e⟩,fun _ k n hk e=>by simp at e,fun e=>absurd rfl e⟩ (fun e=>by simp[cd]at e) (fun e=>absurd rfl e) fun e=>absurd rfl e
 have hmemE:∀ op∈#[({ g:=0,fn:=fr.fn,pos:=fr.place,act:=.mark (.acquire (mkA c.W)) }:MemOp)],op.act.touch? = none∧op.act≠.mark (.release (mkA c.M))∧op.act≠.mark (.release (mkA c.W))∧(op.act=.mark (.releaseMerge (mkA c.M))->c.base<=op.g∧op.g<s.next∧¬ Zcf s op.g):=by
  intro op hop
  simp only[List.mem_toArray,List.mem_singleton]at hop
  rw[hop]
  exact⟨rfl,by simp,by simp,by simp⟩
 refine⟨nx ZaC,cs,w,(H.tagged [40]).join Hl,{ s with tag:=upd s.tag 0 [40] },mwH c s,#[⟨.mark (.acquire (mkA c.W)),false,true⟩],?_,?_,?_,fun j=>?_,rfl,Nat.le_refl _,.inr fun j hj=>?_,hG _ _ ⟨rfl,s.log,Hl,?_,fun j h1 h2 h3=>?_,fun j hj=>?_,hI.cnt.lnd,rfl,hcomp,rfl⟩,?_⟩
 ·exact(ZbF (P:=p) ha hr).trans (by rw[hes])
 ·rw[hu]
  refine⟨Nat.le_refl _,fun _ _ _ _=>rfl,fun b o pm h=>hA.leS b o pm (hI.mw h),fun b x h=>.inr ⟨x,.inr (hI.mw h),fun _=>rfl⟩,.refl w,?_,?_,?_,?_⟩
  ·intro op hop x hx' b hb'
   rw[(hmemE op hop).1]at hx';simp at hx'
  ·intro said q a _ op hop b hb' _
   rw[(hmemE op hop).1]at hb';simp at hb'
  ·intro op hop
   simp only[List.mem_toArray,List.mem_singleton]at hop
   rw[hop]
   exact hA.leS.lt hI.atW
  ·refine⟨hcnt,(hI.tr.quietly hmemE).sub (fun j hj=>?_) (fun b hb'=>?_),fun j hj hcd=>?_,fun h40=>⟨ta1,ta2⟩,.inl ⟨⟨0,h0lt,.inr (by simp[upd_same,cd])⟩,rfl⟩⟩
   ·unfold Zcf at hj ⊢
    simp only at hj
    by_cases e:j=0
    ·subst e;left;rw[htag];simp[cd]
    ·rw[upd_ne _ _ e]at hj;exact hj
   ·obtain⟨⟨x,hx'⟩,b1,b2⟩:=hb'
    exact absurd (hx'.symm.trans (Zbo b1 b2)) (by simp)
   ·have:=Zed (i:=0) (l:=[40]) (es:=#[⟨.mark (.acquire (mkA c.W)),false,true⟩]) (fn:=fr.fn) (pos:=fr.place) hI.deaf (fun _=>by rw[hD];rfl) hj hcd
    rw[<-hu]
    exact this
 ·rw[hu]
  refine⟨?_,?_,?_,?_⟩
  ·intro b o pm hb'
   simp only[Hp.join_at,Hp.tagged_at]at hb'
   cases hh:H b with
   | some z=>rw[hh]at hb';exact hA.le b o pm (by rw[hh];exact hb')
   | none=>rw[hh]at hb';exact hA.leS b o pm (by rw[hHs];exact Hp.join_right hc0 hb')
  ·intro b x y h1 h2
   exfalso
   rcases(Zcb h2).1 with rfl | rfl
   ·have:H c.M=none∧Hl0 c.M=none:=⟨hHM,p1⟩
    simp only[Hp.join_at,Hp.tagged_at,this.1]at h1
    have h1':Hl0 c.M=some x:=h1
    rw[p1]at h1';simp at h1'
   ·simp only[Hp.join_at,Hp.tagged_at,hHW]at h1
    have h1':Hl0 c.W=some x:=h1
    rw[p2]at h1';simp at h1'
  ·intro b x hb'
   refine .inr ⟨x,?_,fun _=>rfl⟩
   simp only[Hp.join_at,Hp.tagged_at]at hb'
   cases hh:H b with
   | some z=>rw[hh]at hb';exact .inl hb'
   | none=>rw[hh]at hb';exact .inr (by rw[hHs];exact Hp.join_right hc0 hb')
  ·have h1:PermH (t++#[{ g:=0,fn:=fr.fn,pos:=fr.place,act:=.mark (.acquire (mkA c.W)) }]) 0 (H.tagged [40]):=
    hA.perm.own fun op hop=>.inl (by simp only[List.mem_toArray,List.mem_singleton]at hop;rw[hop])
   refine h1.join fun b o pm hb' q a hq hl _=>?_
   obtain⟨x,hx',hxa⟩:=touch_of hq
   rcases getElem?_append_cases hx' with ⟨_,hx2⟩ | ⟨_,hx2⟩
   ·exact ta3 q x a b hx2 hxa hl (hpl b _ hb') h0lt
   ·rw[(hmemE x hx2).1]at hxa;simp at hxa
 ·show upd s.tag 0 [40] j=_
  rw[hgh];rfl
 ·have hj:cBlk s j:=hj
  show cBlk _ j
  unfold cBlk at hj ⊢
  have:j≠0:=by rintro rfl;rw[htag]at hj;simp[cd]at hj
  simp only[upd_ne _ _ this]
  exact hj
 ·have:Hl.mem=Hl0.mem:=rfl
  exact ok.bare _ _ _ hPI0
 ·exact(hI.cnt.lwk j h1 (by omega)).2.2.2 (.inl (by rw[hover j h1 (by omega)];rfl)) h3
 ·obtain⟨a,b,d⟩:=hI.cnt.lmem j hj
  exact⟨a,by omega,d⟩
 ·show cAct _
  rw[hgh];exact .inr (by simp[cd])
end
end Go.LL
end
section
namespace Go.LL
open Go.Conc
open Go.ConcN (sumTo upd sumTo_upd upd_ne upd_same)
def Hp.Less (K H:Hp):Prop:=∀ b o pm,K b=some (o,pm)->∃ pm',H b=some (o,pm')∧(pm=true->pm'=true)
section
variable  {p:Program}{c:Cx}{i:Nat}{H:Hp}{s:Ts}{f:FuncId}{wk nr:Bool}
theorem Ct_push (g:Nat->Nat)(tag:Nat->List Nat)(k:Nat)(l:List Nat):Ct g (upd tag k l) (k+1)=Ct g tag k+g (cd l):=by
 have h1:Ct g (upd tag k l) k=Ct g tag k:=by
  unfold Ct
  exact Go.ConcN.sumTo_congr fun j hj=>by rw[upd_ne _ _ (by omega)]
 have h2:Ct g (upd tag k l) (k+1)=Ct g (upd tag k l) k+g (cd (upd tag k l k)):=rfl
 rw[h2,h1,upd_same]
theorem Cnt.fork (h:Cnt c s){n:Nat}(ht:s.tag 0=[33,n])(hn:n<c.K) :
  Cnt c { s with tag:=upd (upd s.tag 0 [30,n+1]) s.next [1],next:=s.next+1,more:=s.more-1 }∧s.more-1<s.more:=by
 have hnx:=h.cntN 33 n (by omega) ht
 have hnum:=h.num
 have hpos:=h.pos
 have h0:=h.next0
 have hmore:1<=s.more:=by omega
 obtain⟨m1,m2⟩:=h.mu.main (more:=s.more) (l:=[30,n+1]) h0 (by rw[ht];simp[cd]) (by simp[cd])
 have ct:∀ g:Nat->Nat,Ct g (upd (upd s.tag 0 [30,n+1]) s.next [1]) (s.next+1)=Ct g (upd s.tag 0 [30,n+1]) s.next+g 1:=fun g=>Ct_push g _ _ _
 have hmu:Mu.mu s.mu (s.more-1) (upd (upd s.tag 0 [30,n+1]) s.next [1]) (s.next+1)=Mu.mu s.mu s.more s.tag s.next:=by
  rw[<-m2]
  unfold Mu.mu
  rw[ct]
  have:pot 1=6:=rfl
  omega
 have htag:∀ j,j≠0->j≠s.next->upd (upd s.tag 0 [30,n+1]) s.next [1] j=s.tag j:=fun j h1 h2=>by rw[upd_ne _ _ h2,upd_ne _ _ h1]
 have htag0:upd (upd s.tag 0 [30,n+1]) s.next [1] 0=[30,n+1]:=by rw[upd_ne _ _ (by omega),upd_same]
 have htagN:upd (upd s.tag 0 [30,n+1]) s.next [1] s.next=[1]:=upd_same _ _ _
 refine⟨⟨?_,?_,fun j hj=>?_,fun v=>?_,fun k n' hk hl=>?_,fun j hj hc=>?_,?_,hpos,?_,fun j h1 h2=>?_,fun j h1 h2=>?_,h.lnd,fun j hj=>?_,fun j h1 h2=>?_⟩,by omega⟩
 ·obtain⟨f1,f2,f3,f4,f5,f6⟩:=m1
  refine⟨?_,f2,f3,f4,?_,?_⟩
  ·rw[ct];exact f1
  ·rw[ct,ct,ct,ct,ct];exact f5
  ·rw[ct,ct,ct,ct];exact f6
 ·obtain⟨f1,f2,f3,f4,f5,f6⟩:=h.wg
  have e:∀ g:Nat->Nat,g 30=0->g 33=0->Ct g (upd s.tag 0 [30,n+1]) s.next=Ct g s.tag s.next:=by
   intro g g1 g2
   have:=counts (tag:=s.tag) (l:=[30,n+1]) h0 g
   rw[ht]at this
   have e1:g (cd [33,n])=0:=g2
   have e2:g (cd [30,n+1])=0:=g1
   omega
  have eW:=e cW rfl rfl
  have eL:=e cL rfl rfl
  have eE:=e cE rfl rfl
  have gf:=f5 (by rw[ht];simp[cd])
  rw[ht]at f1
  have e1:mP (cd [33,n])=1:=rfl
  have e2:cW 1=1:=rfl
  have e3:cL 1=0:=rfl
  have e4:cE 1=0:=rfl
  have e5:mP (cd [30,n+1])=0:=rfl
  refine⟨?_,?_,?_,?_,?_,?_⟩<;>simp only[htag0]
  ·rw[ct,eW];omega
  ·simp[cd]
  ·simp[cd]
  ·simp[cd]
  ·intro _
   rw[ct,ct,eL,eE]
   omega
  ·simp[cd]
 ·simp only[hmu]
  by_cases e0:j=0
  ·subst e0;rw[htag0];exact Mu.says_main (by simp[cd])
  ·by_cases e1:j=s.next
   ·subst e1;rw[htagN];trivial
   ·rw[htag j e0 e1];exact h.says j (by simp only at hj;omega)
 ·simp only[htag0];simp
 ·simp only[htag0]at hl
  simp at hl
  simp only
  omega
 ·by_cases e0:j=0
  ·subst e0;simp only[htag0]at hc;simp[cd]at hc
  ·by_cases e1:j=s.next
   ·subst e1;simp only[htagN]at hc;simp[cd]at hc
   ·simp only[htag j e0 e1]at hc ⊢;exact h.tk j (by simp only at hj;omega) hc
 ·simp only;omega
 ·simp only;have:=h.nb;omega
 ·have:=h.nb;simp only[htag j (by omega) (by omega)];exact h.olds j h1 h2
 ·by_cases e1:j=s.next
  ·subst e1;simp only[htagN];exact⟨by simp[cd],fun e=>by simp[cd]at e⟩
  ·simp only[htag j (by omega) e1];exact h.works j h1 (by simp only at h2;omega)
 ·obtain⟨a1,a2,a3⟩:=h.lmem j hj
  exact⟨a1,by simp only;omega,a3⟩
 ·by_cases e1:j=s.next
  ·subst e1
   simp only[htagN]
   refine⟨fun _ hm=>?_,fun e=>by simp[cd]at e,fun e=>by simp[cd]at e,fun e=>by simp[cd]at e⟩
   have:=(h.lmem _ hm).2.1
   omega
  ·simp only[htag j (by omega) e1];exact h.lwk j h1 (by simp only at h2;omega)
theorem Tr.sub' {C:TC}{next:Nat}{done pl done' pl':Nat->Prop}{t:Trace}(h:Tr C next done pl t)(hd:∀ j,j<next->done' j->done j)(hp:∀ b,pl' b->pl b):Tr C next done' pl' t:=
 ⟨h.pos,h.size,h.norel,h.quiet,fun q x a b h1 h2 h3 h4=>h.pool q x a b h1 h2 h3 (hp b h4),fun q x a h1 h2 h3 h4 h5 h6=>h.mine q x a h1 h2 h3 h4 h5 (hd _ h5 h6),h.early,h.earlyH,h.late,fun q x h1 h2 h3=>let ⟨a,b,e⟩:=h.rels q x h1 h2 h3;⟨a,b,fun h=>e (hd _ b h)⟩⟩
abbrev ZcI (p:Program)(d:Deferred):Frame:={ (default:Frame) with fn:=p.funcs.size,defers:=[d],mode:=.panicking [goexitEntry] }
theorem ZkH {P:Program}{main:Bool}{fr:Frame}{nx:Value->Frame}{cs:List Frame}{sm:Sem Next}{wk nr:Bool}(ha:Zhh P fr nx sm wk nr){d:Deferred}{w w':World}{es0:Array Event}(hd:∃ f c,d.target=.fn f c)(hr:sm.runT P w #[]=(.ok (.spawn d) w',es0)) :
  stepG P main (gor fr cs) w=.spawn (gor (nx undef) cs) (gor (ZcI P d) []) w' (seen P fr.fn es0):=by
 obtain⟨f,c,hd⟩:=hd
 rcases d with ⟨tg,args⟩
 simp only at hd
 subst hd
 rcases ha.spawn with h | h
 ·obtain⟨v,w',es,e⟩:=h w
  rw[hr]at e
  simp at e
 ·exact h _ _ _ _ _ _ _ _ hr
theorem main_go (ok:c.Ok){sm:Sem Next}{d:Deferred}(hd:∃ f c,d.target=.fn f c)(hr:∀ w,sm.runT p w #[]=(.ok (.spawn d) w,#[])){n:Nat}(hg:H.gh=[33,n])(hn:n<c.K){H' Hc:Hp}(h1:H'.Less H)(h2:Hc.Less H)(hdis:H'.Dis Hc)
  (hg':H'.gh=[30,n+1]) (hgc:Hc.gh=[1]) (hwork:Reach ((team p c).prgW (c.base+n)) Zcr (ZcI p d) [] Hc):ShOp ((team p c).prgM) sm wk nr H (fun v K=>v=undef∧K=H'):=by
 intro G fr nx cs hcl ha hG
 refine .shared ⟨by rw[hg];simp,fun s Hs t w hA=>.inr (.inr ?_)⟩
 obtain⟨htag,hI,hD⟩:=Zbi hA (by rw[hg];simp[cd])
 rw[hg]at htag hD
 replace hD:Deaf t 0=0:=hD
 have hpos:=hI.cnt.pos
 have h0lt:0<s.next:=hI.cnt.next0
 have hnx:s.next=c.base+n:=hI.cnt.cntN 33 n (by omega) htag
 obtain⟨hcnt,hlt⟩:=hI.cnt.fork htag hn
 have hdN:Deaf t s.next=0:=hA.above s.next (Nat.le_refl _)
 let s':Ts:={ s with tag:=upd (upd s.tag 0 [30,n+1]) s.next [1],next:=s.next+1,more:=s.more-1 }
 have tagO:∀ j,j≠0->j≠s.next->s'.tag j=s.tag j:=fun j h1 h2=>by show upd (upd s.tag 0 [30,n+1]) s.next [1] j=_;rw[upd_ne _ _ h2,upd_ne _ _ h1]
 have tag0:s'.tag 0=[30,n+1]:=by show upd (upd s.tag 0 [30,n+1]) s.next [1] 0=_;rw[upd_ne _ _ (by omega),upd_same]
 have tagN:s'.tag s.next=[1]:=upd_same _ _ _
 have hu:Zc4 0 s.next fr (ZcI p d) #[]=#[({ g:=0,fn:=fr.fn,pos:=fr.place,act:=.go s.next }:MemOp),{ g:=s.next,fn:=p.funcs.size,pos:=fr.place,act:=.start }]:=by
  simp[Zc4,Zbl,ofEvents_eq]
 have hno:∀ op∈Zc4 0 s.next fr (ZcI p d) #[],op.act.touch? = none∧op.act.low w.heap.size:=by
  intro op hop
  rw[hu]at hop
  simp only[List.mem_toArray,List.mem_cons,List.not_mem_nil,or_false]at hop
  rcases hop with rfl | rfl<;>exact⟨rfl,trivial⟩
 have le_of:∀ {K:Hp},K.Less H->K.le w:=fun hK b o pm hb=>by
  obtain⟨pm',e,_⟩:=hK b o pm hb
  exact hA.le b o pm' e
 have dis_of:∀ {K:Hp},K.Less H->K.Dis Hs:=fun hK b x y hx hy=>by
  obtain⟨pm',e,e2⟩:=hK b x.1 x.2 hx
  obtain⟨e3,e4⟩:=hA.dis b _ _ e hy
  have:x.2=false:=by
   cases hx2:x.2 with
   | false=>rfl
   | true=>rw[e2 hx2]at e4;simp at e4
  simp only at e4
  subst e4
  exact⟨by rw[<-e3,<-this],this⟩
 have from_of:∀ {K:Hp},K.Less H->From H Hs w K:=fun hK b x hx=>by
  obtain⟨pm',e,e2⟩:=hK b x.1 x.2 hx
  refine .inr ⟨_,.inl e,fun e3=>?_⟩
  simp only at e3
  subst e3
  cases hx2:x.2 with
  | false=>rw[<-hx2]
  | true=>exact absurd (e2 hx2) (by simp)
 have perm_of:∀ {K:Hp},K.Less H->PermH t 0 K:=fun hK b o pm hb q a hq hl hw=>by
  obtain⟨pm',e,e2⟩:=hK b o pm hb
  exact hA.perm b o pm' e q a hq hl (hw.imp e2 id)
 have oldTouch:∀ {q:Nat} {a:Touch},touchAt (t++Zc4 0 s.next fr (ZcI p d) #[]) q=some a->touchAt t q=some a:=by
  intro q a hq
  obtain⟨x,hx,hxa⟩:=touch_of hq
  rcases getElem?_append_cases hx with ⟨_,hx'⟩ | ⟨_,hx'⟩
  ·rw[touchAt_of hx'];exact hxa
  ·rw[(hno x hx').1]at hxa;simp at hxa
 refine⟨nx undef,cs,ZcI p d,w,H',Hc,s',Hs,#[],?_,?_,⟨le_of h1,dis_of h1,from_of h1,?_⟩,⟨le_of h2,dis_of h2,from_of h2,?_⟩,hdis,fun j=>?_,rfl,hlt,fun j hj hb=>?_,hG _ _ ⟨rfl,rfl⟩,?_,?_,?_⟩
 ·exact(ZkH (P:=p) ha hd (hr w)).trans (by simp[seen])
 ·refine⟨Nat.le_refl _,fun _ _ _ _=>rfl,hA.leS,fun b x h=>.inr ⟨x,.inr h,fun _=>rfl⟩,.refl w,?_,?_,fun op hop=>(hno op hop).2,?_⟩
  ·intro op hop x hx' b hb'
   rw[(hno op hop).1]at hx';simp at hx'
  ·intro said q a _ op hop b hb' _
   rw[(hno op hop).1]at hb';simp at hb'
  ·refine⟨hcnt,?_,fun j hj hcd=>?_,fun h40=>?_,?_⟩
   ·have:=hI.tr.fork hI.cnt.nb (x:={ g:=0,fn:=fr.fn,pos:=fr.place,act:=.go s.next }) (y:={ g:=s.next,fn:=p.funcs.size,pos:=fr.place,act:=.start }) ⟨rfl,rfl⟩ ⟨rfl,rfl⟩ hD hdN h0lt
    rw[<-hu]at this
    refine this.sub' (fun j hjl hj=>?_) (fun b hb'=>hb')
    unfold Zcf at hj ⊢
    by_cases e0:j=0
    ·subst e0;exact⟨by rw[htag];simp[cd],h0lt⟩
    ·by_cases e1:j=s.next
     ·subst e1;rw[tagN]at hj;simp[cd]at hj
     ·rw[tagO j e0 e1]at hj
      exact⟨hj,by omega⟩
   ·have hda:∀ j,Deaf (t++Zc4 0 s.next fr (ZcI p d) #[]) j=Deaf t j:=by
     intro j
     rw[hu,Deaf_append]
     simp[deafStep]
    show Deaf (t++Zc4 0 s.next fr (ZcI p d) #[]) j=_
    rw[hda]
    by_cases e0:j=0
    ·subst e0;rw[tag0,hD];rfl
    ·by_cases e1:j=s.next
     ·subst e1;rw[tagN,hdN];rfl
     ·rw[tagO j e0 e1]at hcd ⊢
      exact hI.deaf j ⟨by have:j<s.next+1:=hj.1;omega,hj.2⟩ hcd
   ·rw[tag0]at h40;simp[cd]at h40
   ·have htk:Zeo s'↔Zeo s:=by
     constructor
     ·rintro⟨j,h1,h2⟩
      by_cases e0:j=0
      ·subst e0;rw[tag0]at h2;simp[cd]at h2
      ·by_cases e1:j=s.next
       ·subst e1;rw[tagN]at h2;simp[cd]at h2
       ·rw[tagO j e0 e1]at h2
        exact⟨j,by have:j<s.next+1:=h1;omega,h2⟩
     ·rintro⟨j,h1,h2⟩
      by_cases e0:j=0
      ·subst e0;rw[htag]at h2;simp[cd]at h2
      ·exact⟨j,by show j<s.next+1;omega,by rw[tagO j e0 (by omega)];exact h2⟩
    exact hI.heap.imp (fun ⟨a,b⟩=>⟨htk.2 a,b⟩) fun ⟨a,Hl,b,cc,d⟩=>⟨fun h=>a (htk.1 h),Hl,b,cc,d⟩
 ·intro b o pm hb q a hq hl hw
  exact(perm_of h1 b o pm hb q a (oldTouch hq) hl hw).app _
 ·intro b o pm hb q a hq hl hw
  have:=Go.ConcN.fork_knows (x:={ g:=0,fn:=fr.fn,pos:=fr.place,act:=.go s.next }) (y:={ g:=s.next,fn:=p.funcs.size,pos:=fr.place,act:=.start }) ⟨rfl,rfl⟩ ⟨rfl,rfl⟩ hD hdN (perm_of h2 b o pm hb q a (oldTouch hq) hl hw)
  rw[<-hu]at this
  exact this
 ·show s'.tag j=_
  by_cases e0:j=0
  ·subst e0;rw[tag0,hg'];simp
  ·rw[if_neg e0]
   by_cases e1:j=s.next
   ·subst e1;rw[tagN,hgc];exact(if_pos rfl).symm
   ·rw[tagO j e0 e1];exact(if_neg e1).symm
 ·have hb:cBlk s j:=hb
  show cBlk s' j
  have hj:j<s.next:=hj
  have e0:j≠0:=by
   rintro rfl
   unfold cBlk at hb
   rw[htag]at hb
   simp[cd]at hb
  unfold cBlk at hb ⊢
  rw[tagO j e0 (by omega)]
  exact hb
 ·show cAct _
  rw[hg'];exact .inr (by simp[cd])
 ·show cAct _
  rw[hgc];exact .inl (by simp[cd])
 ·have:(team p c).next s=c.base+n:=hnx
  rw[this]
  exact hwork
end
end Go.LL
end
section
namespace Go.LL
open Go.Conc
open Go.ConcN (sumTo upd sumTo_upd upd_ne upd_same)
section
variable  {p:Program}{c:Cx}{i:Nat}{H:Hp}{f:FuncId}{wk nr:Bool}
theorem Zm3 (t:Trace)(i:Nat)(fr:Frame)(es:Array Event)(he:es=#[]):t++Zbl i fr es=t:=by subst he;simp[Zbl,ofEvents_eq]
theorem Zg4 {T:Team p}{i:Nat}{H:Hp}{s:T.S}{Hs:Hp}{t:Trace}{w:World}(hA:Ahead T i H s Hs t w){sm:Sem Next}{v:Value}{es0:Array Event}{fr:Frame}{nx:Value->Frame}{cs:List Frame}(ha:Zhh p fr nx sm wk nr)(hr:sm.runT p w #[]=(.ok (.value v) w,es0))(hs:seen p fr.fn es0=#[])
  {K:Trace->Frame->List Frame->Hp->Prop} (hK:K t (nx v) cs H):Zh4 T i K fr cs H s Hs t w:=by
 have e:t++Zbl i fr #[]=t:=Zm3 t i fr #[] rfl
 refine⟨nx v,cs,w,H,s,Hs,#[],?_,?_,?_,fun j=>?_,rfl,Nat.le_refl _,.inr fun j hj=>hj,?_⟩
 ·exact(ZbF (P:=p) ha hr).trans (by rw[hs])
 ·refine⟨Nat.le_refl _,fun _ _ _ _=>rfl,hA.leS,fun b x h=>.inr ⟨x,.inr h,fun _=>rfl⟩,.refl w,?_,?_,?_,by rw[e];exact hA.inv⟩<;>simp[Zbl,ofEvents_eq]
 ·exact⟨hA.le,hA.dis,fun b x h=>.inr ⟨x,.inl h,fun _=>rfl⟩,by rw[e];exact hA.perm⟩
 ·split
  ·subst j;exact hA.tag
  ·rfl
 ·rw[e];exact hK
theorem Zik {sm:Sem Next}{Post:Value->Hp->Prop}(hg:cAct H.gh)(h:∀ s Hs t w,Ahead (team p c) i H s Hs t w->∃ v es0,sm.runT p w #[]=(.ok (.value v) w,es0)∧(∀ fn,(nr=true->norace p fn=true)->seen p fn es0=#[])∧Post v H):ShOp ((team p c).prgW i) sm wk nr H Post:=by
 intro G fr nx cs hcl ha hG
 refine .shared ⟨by intro e;rw[e]at hg;simp[cAct,cd]at hg,.inr (.inl ⟨hg,fun s Hs t w hA=>.inl ?_⟩)⟩
 obtain⟨v,es0,h1,h2,h3⟩:=h s Hs t w hA
 exact Zg4 hA ha h1 (h2 _ ha.nr) (.inl ⟨hG _ _ h3,hg⟩)
theorem ZkR {sm:Sem Next}{Post:Value->Hp->Prop}(hg:30<=cd H.gh)(h:∀ s Hs t w,Ahead (team p c) 0 H s Hs t w->∃ v es0,sm.runT p w #[]=(.ok (.value v) w,es0)∧(∀ fn,(nr=true->norace p fn=true)->seen p fn es0=#[])∧Post v H):ShOp ((team p c).prgM) sm wk nr H Post:=by
 intro G fr nx cs hcl ha hG
 refine .shared ⟨by intro e;rw[e]at hg;simp[cd]at hg,fun s Hs t w hA=>.inl ?_⟩
 obtain⟨v,es0,h1,h2,h3⟩:=h s Hs t w hA
 exact Zg4 hA ha h1 (h2 _ ha.nr) ⟨hG _ _ h3,.inr hg⟩
theorem ZjU {src dst t ty2:TypeId}(hs:p.underlying src=some (.pointer t))(hd:p.underlying dst=some .unsafePointer)(hsz:(p.info? t).map (fun i=>decide (i.size=0))=some false){a:Addr}{v:Value}{w:World}(hc:w.cell? a=some v){x:Operand}{ρ:Operand->Value}(hx:ρ x=.pointer (some a)) :
  (execOp ρ (bare (.convert src dst x) ty2)).runT p w #[]=(.ok (.value (.pointer (some a))) w,#[]):=by
 have e:execOp ρ (bare (.convert src dst x) ty2)=(do pure (.value (<-convert src dst (.pointer (some a)))):Sem Next):=by simp[execOp,bare,hx]
 rw[e,Sem.runT_eq]
 have h1:=run_convert_to_unsafe hs hd hsz hc
 have h2:=events_convert_to_unsafe hs hd hsz hc #[]
 have e1:(do pure (.value (<-convert src dst (.pointer (some a)))):Sem Next).run p w=.ok (.value (.pointer (some a))) w:=by simp[h1,Result.andThen]
 have e2:(do pure (.value (<-convert src dst (.pointer (some a)))):Sem Next).events p w #[]=#[]:=by simp[h1,h2,Result.evThen,Result.andThen]
 rw[e1,e2]
structure Zls (p:Program)(src dst:TypeId):Prop where
 ex:∃ t,p.underlying src=some (.pointer t)∧p.underlying dst=some .unsafePointer∧(p.info? t).map (fun i=>decide (i.size=0))=some false
theorem ZbO (ok:c.Ok){src dst ty2:TypeId}(hT:Zls p src dst){x:Operand}{ρ:Operand->Value}{a:Addr}(hx:ρ x=.pointer (some a))(ha:a=mkA c.M∨a=mkA c.W)(hg:cAct H.gh) :
  ShOp ((team p c).prgW i) (execOp ρ (bare (.convert src dst x) ty2)) wk nr H (fun v H'=>v=.pointer (some a)∧H'=H):=by
 obtain⟨t,h1,h2,h3⟩:=hT.ex
 refine Zik hg fun s Hs t w hA=>?_
 have hc:∃ v,w.cell? a=some v:=by
  rcases ha with rfl | rfl
  ·exact⟨_,(ZjB ok hA).1⟩
  ·exact⟨_,(Zfd hA).1⟩
 obtain⟨v,hc⟩:=hc
 exact⟨_,_,ZjU h1 h2 h3 hc hx,fun fn _=>by simp[seen],rfl,rfl⟩
theorem Zee {src dst ty2:TypeId}(hT:Zls p src dst){x:Operand}{ρ:Operand->Value}{a:Addr}(hx:ρ x=.pointer (some a))(ha:a=mkA c.W∨a=⟨c.W,1,none⟩)(hg:30<=cd H.gh) :
  ShOp ((team p c).prgM) (execOp ρ (bare (.convert src dst x) ty2)) wk nr H (fun v H'=>v=.pointer (some a)∧H'=H):=by
 obtain⟨t,h1,h2,h3⟩:=hT.ex
 refine ZkR hg fun s Hs t w hA=>?_
 have hc:∃ v,w.cell? a=some v:=by
  rcases ha with rfl | rfl
  ·exact⟨_,(Zfd hA).1⟩
  ·exact⟨_,(Zfd hA).2.2.1⟩
 obtain⟨v,hc⟩:=hc
 exact⟨_,_,ZjU h1 h2 h3 hc hx,fun fn _=>by simp[seen],rfl,rfl⟩
theorem Zk1 (ok:c.Ok){ty:TypeId}(hty:Zb5 p ty=some none){x:Operand}{ρ:Operand->Value}{ty2:TypeId}(hx:ρ x=.pointer (some (mkA c.M)))(hg:cAct H.gh) :
  ShOp ((team p c).prgW i) (execOp ρ (bare (.load ty x) ty2)) wk true H (fun _ H'=>H'=H):=
 Zik hg fun s Hs t w hA=>⟨_,_,Zid hty (ZjB ok hA).1 hx,fun fn hn=>ZgH (hn rfl),rfl⟩
end
section
variable  {P:Prg}{d:Option Nat}{next:NSt->Hp->Prop}{σ:NSt}{H:Hp}{x:Operand}{f:FuncId}{e:Array Value->Sem Value}{as:Array Operand}{ts:Array TypeId}{ty:TypeId}{vs:List Value}
theorem Ext.wakes (hx:Ext P.toProgram f e):Zb7 P.toProgram (bare (.call { callee:=.value (.func f),args:=as,argTypes:=ts }) ty)=true:=by
 obtain⟨fn,h1,_,h3,_⟩:=hx.ex
 have:fn.body.isSome=false:=by simpa using h3
 simp[Zb7,bare,h1,this]
theorem ZeS (h2:(as.toList.all fun x=>(σ.get x).isSome)=true):((Op.call { callee:=.value (.func f),args:=as,argTypes:=ts }).operands.all fun x=>(σ.get x).isSome)=true:=by
 rw[Array.all_eq_true_iff_forall_mem]
 intro x hx
 simp only[Op.operands,Call.operands]at hx
 simp only[List.all_eq_true]at h2
 simp only[List.cons_append,List.nil_append,Array.mem_append,List.mem_toArray,List.mem_singleton,Array.mem_toList_iff]at hx h2
 rcases hx with rfl | hx
 ·rfl
 ·exact h2 x hx
theorem Zax (hx:Ext P.toProgram f e)(ha:σ.gets as.toList=some vs){Post:Value->Hp->Prop}(h:ShOp P (callFunc f vs.toArray) true false H Post)(hn:∀ v H',Post v H'->next (σ.set d v) H') :
  (NOp.raw (.call { callee:=.value (.func f),args:=as,argTypes:=ts }) ty).m P d next σ H:=by
 obtain⟨h1,h2⟩:=Zb3 ha
 refine⟨?_,.inr ?_⟩
 ·exact ZeS h2
 ·rw[ZiQ (ρ:=fun x=>(σ.get x).getD undef) rfl,hx.wakes]
  have:as.map (fun x=>(σ.get x).getD undef)=vs.toArray:=by
   obtain⟨as⟩:=as
   simp only[List.map_toArray]
   rw[h1]
  rw[this]
  exact h.mono hn
theorem Ze0 (hx:Ext P.toProgram f e)(ha:σ.gets as.toList=some vs)(h:wpL P (e vs.toArray) (fun v _ H'=>next (σ.set d v) H') false H) :
  (NOp.raw (.call { callee:=.value (.func f),args:=as,argTypes:=ts }) ty).m P d next σ H:=by
 obtain⟨h1,h2⟩:=Zb3 ha
 refine⟨?_,.inl ?_⟩
 ·exact ZeS h2
 ·rw[ZiQ (ρ:=fun x=>(σ.get x).getD undef) rfl]
  have:as.map (fun x=>(σ.get x).getD undef)=vs.toArray:=by
   obtain⟨as⟩:=as
   simp only[List.map_toArray]
   rw[h1]
  rw[this]
  obtain⟨fn,g1,g2,g3,g4,g5⟩:=hx.ex
  simp only[callFunc,Zaa,ZaU,g1,g2,g3,g4,g5,Bool.false_eq_true,if_false,if_true]
  exact⟨.inl ⟨f,rfl⟩,Za2 (fun v g H h=>(.inr h:_∨_)) h⟩
theorem Zcj {t t2:TypeId}{v:Value}(e:σ.get x=some v){Post:Value->Hp->Prop}(h:ShOp P (execOp (fun x=>(σ.get x).getD undef) (bare (.convert t t2 x) ty)) (Zb7 P (bare (.convert t t2 x) ty)) false H Post)(hn:∀ v H',Post v H'->next (σ.set d v) H'):(NOp.raw (.convert t t2 x) ty).m P d next σ H:=
 ⟨by simp[Op.operands,e],.inr (h.mono hn)⟩
theorem ZbV {t:TypeId}{v:Value}(e:σ.get x=some v){Post:Value->Hp->Prop}(h:ShOp P (execOp (fun x=>(σ.get x).getD undef) (bare (.load t x) ty)) (Zb7 P (bare (.load t x) ty)) true H Post)(hn:∀ v H',Post v H'->next (σ.set d v) H'):(NOp.rawn (.load t x) ty).m P d next σ H:=
 ⟨by simp[Op.operands,e],h.mono hn⟩
end
end Go.LL
end
