import Derived.Test.YthmnpenamnoniaaGreatDoorP37
import Derived.Test.YthmnpenamnoniaaGreatDoorP38
set_option linter.all false
section
open Go Go.LL
namespace Go.Proofs
set_option maxHeartbeats 1000000
section
variable  {c:Cx}{i:Nat}
noncomputable abbrev pm (c:Cx):Prg:=(team Tryz.prog c).prgM
theorem Zln (ok:c.Ok){kd:CallKind}(hkd:kd=.normal∨kd=.deferred){H:Hp}(hg:(cd H.gh=1∧¬ c.need i=true)∨cd H.gh=19):ZbE (pw c i) kd 102 #[ptr c.W,.int .i64 (-1)] H fun _ H'=>H'=H.tagged (lv 0):=by
 have hact:cAct H.gh:=.inl (by omega)
 refine IsN.mK (P:=pw c i) hkd c109 (args:=[ptr c.W,.int .i64 (-1)]) rfl ?_
 unfold n109
 refine wsT ?_
 refine om_lt_t rfl rfl rfl (by decide) ?_
 refine wsT ?_
 refine Zcj rfl (ZbO ok Zjz rfl (.inr rfl) hact) ?_
 rintro v H1 ⟨rfl,e⟩
 rw[e]
 refine wsT ?_
 refine Zax e150 (vs:=[ptr c.W]) rfl (act_over ok e150 hg) ?_
 rintro v _ ⟨rfl,rfl⟩
 refine wsT ?_
 refine Zax e151 (vs:=[]) rfl (Zjo ok e151 (by rfl)) ?_
 rintro v _ ⟨rfl,rfl⟩
 refine wsT ?_
 refine Zfo (vs:=[]) rfl ?_
 refine wsT ?_
 refine Ze0 e153 (vs:=[]) rfl ?_
 refine Zcu ?_
 refine wsT ?_
 refine Zb2 u3 u144k rfl (r:=18446744073709551615) rfl ?_
 refine wsT ?_
 refine Za5 rfl rfl (.inr rfl) (by decide) (v:=.int .u64 18446744069414584320) rfl ?_
 refine wsT ?_
 refine Zab (vs:=[ptr c.W,.int .u64 18446744069414584320]) rfl (w157 rfl (hsh_add ok e191 (by rfl))) ?_
 rintro v H' ⟨n,wt,hn,hwt,rfl,hH'⟩
 refine wsT ?_
 refine Zam rfl rfl (.inl rfl) (Zfg (by omega) hwt) ?_
 refine wsT ?_
 refine ZaA rfl rfl rfl rfl ?_
 refine wsT ?_
 refine Za5 rfl rfl (.inl rfl) (by decide) (wg_v hwt) ?_
 refine wsT ?_
 refine Zb2 ZkE u21 rfl (Zhk (by omega)) ?_
 refine wsT ?_
 refine Zam rfl rfl (.inl rfl) (wg_wt (by omega) hwt) ?_
 refine wsT ?_
 refine Zb2 ZkE u137 rfl (Zhj hwt) ?_
 refine wsT ?_
 refine ZhI rfl rfl rfl (by decide) ?_
 refine wsT ?_
 refine ZhD rfl rfl rfl (by omega) ?_
 refine wsT ?_
 have fin:∀ {rs:List NRes} {σ:NSt} {H1:Hp},H1=H.tagged (lv 1)->σ.defs=[{ target:=.fn (.func 157) #[],args:=#[] }]->Zhx σ rs=some []->rs.any NRes.cell=false->Zeq (pw c i) rs (fun _ H'=>H'=H.tagged (lv 0)) σ H1:=by
  rintro rs σ H1 rfl hd hr hc
  refine ZhO hc hr ?_
  rw[hd]
  refine Zmb ZlC ((Zmm e152 rfl).mono ?_)
  rintro v _ ⟨_,rfl⟩
  rfl
 by_cases hw:wt=0
 ·subst hw
  have hH1:H'=H.tagged (lv 1):=by
   rcases hH' with ⟨_,h⟩ | ⟨_,h,_⟩
   ·exact h
   ·simp at h
  refine ZaA rfl rfl rfl rfl ?_
  refine wsT ?_
  by_cases hv:n=0
  ·refine ZhI rfl rfl rfl (by omega) ?_
   refine wsT ?_
   refine ZaV rfl rfl rfl rfl ?_
   refine wsT ?_
   exact Zdh (fin hH1 rfl rfl rfl)
  ·refine ZfY rfl rfl rfl (by omega) ?_
   refine wsT ?_
   exact Zdh (fin hH1 rfl rfl rfl)
 ·have hw1:wt=1:=by omega
  subst hw1
  refine Za8 rfl rfl rfl (by simp) ?_
  refine wsT ?_
  refine ZhI rfl rfl rfl (by decide) ?_
  refine wsT ?_
  rcases hH' with ⟨h1,rfl⟩ | ⟨rfl,_,rfl⟩
  ·have hv:n≠0:=by omega
   refine ZfY rfl rfl rfl (by omega) ?_
   refine wsT ?_
   exact Zdh (fin rfl rfl rfl rfl)
  ·refine ZhI rfl rfl rfl (by decide) ?_
   refine wsT ?_
   refine ZaD rfl rfl rfl (by decide) ?_
   refine wsT ?_
   refine Zab (vs:=[ptr c.W]) rfl (w159 rfl (hsh_load ok e192 (by rfl))) ?_
   rintro v _ ⟨rfl,rfl⟩
   refine wsT ?_
   refine ZaA rfl rfl rfl rfl ?_
   refine wsT ?_
   refine Zab (Post:=fun v H'=>v=ZaC∧H'=H.tagged [24]) (vs:=[ptr c.W,.int .u64 0]) rfl (w160 rfl ((Zmx ok e193 (by rfl)).mono fun v H hv=>⟨rfl,hv.2⟩)) ?_
   rintro v _ ⟨rfl,rfl⟩
   refine wsT ?_
   refine Zf0 (fun (j:Nat) H'=>(j=1∧H'=H.tagged [24])∨(j=0∧H'=H.tagged (lv 1))) id (fun j=>[(0,ptr c.W),(8,.int .u32 (j:Nat))]) (fun _=>[]) 1 (.inl ⟨rfl,rfl⟩) ⟨rfl,rfl,trivial⟩ trivial ?_
   rintro j H1 (⟨rfl,rfl⟩ | ⟨rfl,rfl⟩)
   ·refine wsT ?_
    refine Za8 rfl rfl rfl (by decide) ?_
    refine wsT ?_
    refine Zax e162 (vs:=[.pointer (some ((mkA c.W).add 1)),.bool false,.int .i64 0]) rfl (Zk2 ok e162 rfl (by rfl)) ?_
    rintro v _ ⟨rfl,rfl⟩
    refine wsT ?_
    refine Zam rfl rfl (.inr (.inr (.inr rfl))) (v:=.int .u32 (0:Nat)) rfl ?_
    refine wsT ?_
    exact⟨0,by simp,.inr ⟨rfl,rfl⟩,⟨rfl,rfl,trivial⟩,trivial,rfl⟩
   ·refine wsT ?_
    refine ZaA rfl rfl rfl rfl ?_
    refine wsT ?_
    exact Ze1 (fin rfl rfl rfl rfl)
theorem ZmJ (ok:c.Ok){kd:CallKind}(hkd:kd=.normal∨kd=.deferred){H:Hp}(hg:(cd H.gh=1∧¬ c.need i=true)∨cd H.gh=19):ZbE (pw c i) kd 104 #[ptr c.W] H fun _ H'=>H'=H.tagged (lv 0):=by
 refine IsN.mK (P:=pw c i) hkd c111 (args:=[ptr c.W]) rfl ?_
 unfold n111
 refine wsT ?_
 refine Zab (vs:=[ptr c.W,.int .i64 (-1)]) rfl (Zln ok (.inl rfl) hg).calls ?_
 rintro v _ rfl
 refine wsT ?_
 rfl
theorem add_main (ok:c.Ok){n:Nat}{H:Hp}(hg:H.gh=[30,n]):LL.Zag (pm c) 102 #[ptr c.W,.int .i64 1] H fun _ H'=>H'=H.tagged [33,n]:=by
 refine IsN.m (P:=pm c) c109 (args:=[ptr c.W,.int .i64 1]) rfl ?_
 unfold n109
 refine wsT ?_
 refine ZhD rfl rfl rfl (by decide) ?_
 refine wsT ?_
 refine Zax e151 (vs:=[]) rfl (Zfa ok e151 hg) ?_
 rintro v _ ⟨rfl,rfl⟩
 refine wsT ?_
 refine Zfo (vs:=[]) rfl ?_
 refine wsT ?_
 refine Ze0 e153 (vs:=[]) rfl ?_
 refine Zcu ?_
 refine wsT ?_
 refine Zb2 u3 u144k rfl (r:=1) rfl ?_
 refine wsT ?_
 refine Za5 rfl rfl (.inr rfl) (by decide) (v:=.int .u64 4294967296) rfl ?_
 refine wsT ?_
 refine Zab (vs:=[ptr c.W,.int .u64 4294967296]) rfl (w157 rfl (main_add ok e191 (n:=n) (by rfl))) ?_
 rintro v _ ⟨k,hk,rfl,rfl⟩
 refine wsT ?_
 refine Zam rfl rfl (.inl rfl) (Zfg (by omega) (by omega)) ?_
 refine wsT ?_
 refine ZaA rfl rfl rfl rfl ?_
 refine wsT ?_
 refine Za5 rfl rfl (.inl rfl) (by decide) (wg_v (by omega)) ?_
 refine wsT ?_
 refine Zb2 ZkE u21 rfl (Zhk (by omega)) ?_
 refine wsT ?_
 refine Zam rfl rfl (.inl rfl) (wg_wt (by omega) (by omega)) ?_
 refine wsT ?_
 refine Zb2 ZkE u137 rfl (Zhj (by omega)) ?_
 refine wsT ?_
 refine ZfY rfl rfl rfl (by decide) ?_
 refine wsT ?_
 refine Zb2 u3 u21 rfl (r:=1) rfl ?_
 refine wsT ?_
 have fin:∀ {rs:List NRes} {σ:NSt} {H1:Hp},H1=H.tagged [32,n]->σ.defs=[{ target:=.fn (.func 157) #[],args:=#[] }]->Zhx σ rs=some []->rs.any NRes.cell=false->Zeq (pm c) rs (fun _ H'=>H'=H.tagged [33,n]) σ H1:=by
  rintro rs σ H1 rfl hd hr hc
  refine ZhO hc hr ?_
  rw[hd]
  refine Zmb ZlC ((Zf2 ok e152 rfl).mono ?_)
  rintro v _ ⟨_,rfl⟩
  rfl
 by_cases h1:k=0
 ·subst h1
  refine ZaV rfl rfl rfl rfl ?_
  refine wsT ?_
  refine Zcj rfl (Zee ZmK rfl (.inr rfl) (by simp[Hp.tagged,cd])) ?_
  rintro v _ ⟨rfl,rfl⟩
  refine wsT ?_
  refine Zax e158 (vs:=[.pointer (some ⟨c.W,1,none⟩)]) rfl (ZiD ok (.inl rfl) e158 (.inl ⟨n,rfl⟩)) ?_
  rintro v _ ⟨rfl,rfl⟩
  refine wsT ?_
  refine ZhD rfl rfl rfl (by decide) ?_
  refine wsT ?_
  refine ZaA rfl rfl rfl rfl ?_
  refine wsT ?_
  refine ZfY rfl rfl rfl (by decide) ?_
  refine wsT ?_
  exact Zdh (fin rfl rfl rfl rfl)
 ·refine ZaD rfl rfl rfl (by omega) ?_
  refine wsT ?_
  refine ZhD rfl rfl rfl (by omega) ?_
  refine wsT ?_
  refine ZaA rfl rfl rfl rfl ?_
  refine wsT ?_
  refine ZfY rfl rfl rfl (by omega) ?_
  refine wsT ?_
  exact Zdh (fin rfl rfl rfl rfl)
end
set_option maxHeartbeats 1000000
section
variable  {c:Cx}
def GotAll (c:Cx)(H H':Hp):Prop:=∃ (l:List Nat) (Hl:Hp),c.PI l Hl∧(∀ j,c.base<=j->j<c.base+c.K->c.need j=true->j∈l)∧(∀ j∈l,c.base<=j∧j<c.base+c.K∧c.need j=true)∧l.Nodup∧Hl.gh=[]∧(H.tagged [40]).Comp Hl∧H'=(H.tagged [40]).join Hl
theorem wrapcas {n:Nat}(h:n<=100000001):IntKind.u64.wrap ((wgv n 0:Nat)+1)=((wgv n 1:Nat):Int):=by
 have e:((wgv n 0:Nat):Int)+1=((wgv n 1:Nat):Int):=by unfold wgv;omega
 rw[<-e,Zi1 (by omega) (by unfold wgv;omega)]
theorem om_addk {P:Prg}{d:Option Nat}{next:NSt->Hp->Prop}{σ:NSt}{H:Hp}{x y:Operand}{m n r:Int}(e1:σ.get x=some (.int .u64 m))(e2:σ.get y=some (.int .u64 n))(hr:IntKind.u64.wrap (m+n)=r)(h:next (σ.set d (.int .u64 r)) H):(NOp.bin .add x y).m P d next σ H:=
 ZaY e1 e2 rfl (by subst hr;exact h)
theorem wait_ok (ok:c.Ok){H:Hp}(hg:H.gh=[30,c.K]):LL.Zag (pm c) 108 #[ptr c.W] H fun _ H'=>GotAll c H H':=by
 refine IsN.m (P:=pm c) c115 (args:=[ptr c.W]) rfl ?_
 unfold n115
 refine wsT ?_
 refine Zax e151 (vs:=[]) rfl (ZeK ok e151 hg) ?_
 rintro v _ ⟨rfl,rfl⟩
 refine wsT ?_
 refine Zf0 (fun (j:Option Nat) H'=>H'=H.tagged (34 :: j.toList)) (fun j=>j.getD 100000003) (fun _=>[(0,ptr c.W)]) (fun _=>[]) none rfl ⟨rfl,trivial⟩ trivial ?_
 rintro j _ rfl
 refine wsT ?_
 refine Zab (vs:=[ptr c.W]) rfl (w159 rfl (Zml ok e192 (l0:=j.toList) (by rfl))) ?_
 rintro v H' ⟨n,hn,rfl,hlt,hH'⟩
 refine wsT ?_
 refine Za5 rfl rfl (.inl rfl) (by decide) (wg_v (by omega)) ?_
 refine wsT ?_
 refine Zb2 ZkE u21 rfl (Zhk (by omega)) ?_
 refine wsT ?_
 refine Zam rfl rfl (.inl rfl) (wg_wt (by omega) (by omega)) ?_
 refine wsT ?_
 refine Zb2 ZkE u137 rfl (Zhj (by omega)) ?_
 refine wsT ?_
 rcases hH' with ⟨rfl,rfl⟩ | ⟨h0,rfl⟩
 ·refine ZaV rfl rfl rfl rfl ?_
  refine wsT ?_
  refine Zax e152 (vs:=[]) rfl (Zc2 ok e152 (by rfl)) ?_
  rintro v _ ⟨rfl,rfl⟩
  refine wsT ?_
  refine Zcj rfl (Zee Zjz rfl (.inl rfl) (by simp[Hp.tagged,cd])) ?_
  rintro v H1 ⟨rfl,e⟩
  rw[e]
  refine wsT ?_
  refine Zax e165 (vs:=[ptr c.W]) rfl (Zkj ok e165 (by rfl)) ?_
  rintro v H2 ⟨rfl,hgot⟩
  refine wsT ?_
  refine ZaV rfl rfl rfl rfl ?_
  refine wsT ?_
  refine Zam rfl rfl (.inl rfl) (Zfg (by omega) (by omega)) ?_
  refine wsT ?_
  refine ZaA rfl rfl rfl rfl ?_
  refine wsT ?_
  exact hgot
 ·refine ZaD rfl rfl rfl (by omega) ?_
  refine wsT ?_
  refine om_addk rfl rfl (wrapcas hn) ?_
  refine wsT ?_
  refine Zab (vs:=[ptr c.W,.int .u64 (wgv n 0:Nat),.int .u64 (wgv n 1:Nat)]) rfl (w167 rfl (main_cas ok e198 h0 (by rfl))) ?_
  rintro v _ (⟨rfl,rfl⟩ | ⟨rfl,rfl⟩)
  ·refine wsT ?_
   refine ZaV rfl rfl rfl rfl ?_
   refine wsT ?_
   refine Zcj rfl (Zee ZmK rfl (.inr rfl) (by simp[Hp.tagged,cd])) ?_
   rintro v H1 ⟨rfl,e⟩
   rw[e]
   refine wsT ?_
   refine Zax e168 (vs:=[.pointer (some ⟨c.W,1,none⟩)]) rfl (ZiD ok (.inr rfl) e168 (.inr rfl)) ?_
   rintro v H2 ⟨rfl,e⟩
   rw[e]
   refine wsT ?_
   refine Zam rfl rfl (.inl rfl) (Zfg (by omega) (by omega)) ?_
   refine wsT ?_
   refine ZaA rfl rfl rfl rfl ?_
   refine wsT ?_
   refine Zax e169 (vs:=[.pointer (some ((mkA c.W).add 1)),.bool false]) rfl (main_sem ok e169 rfl (by rfl)) ?_
   rintro v _ ⟨rfl,rfl⟩
   refine wsT ?_
   refine Zab (vs:=[ptr c.W]) rfl (w159 rfl (Zk0 ok e192 (by rfl))) ?_
   rintro v _ ⟨rfl,rfl⟩
   refine wsT ?_
   refine ZaA rfl rfl rfl rfl ?_
   refine wsT ?_
   refine Zax e152 (vs:=[]) rfl (Zc2 ok e152 (by rfl)) ?_
   rintro v _ ⟨rfl,rfl⟩
   refine wsT ?_
   refine Zcj rfl (Zee Zjz rfl (.inl rfl) (by simp[Hp.tagged,cd])) ?_
   rintro v H3 ⟨rfl,e⟩
   rw[e]
   refine wsT ?_
   refine Zax e165 (vs:=[ptr c.W]) rfl (Zkj ok e165 (by rfl)) ?_
   rintro v H4 ⟨rfl,hgot⟩
   refine wsT ?_
   exact hgot
  ·refine wsT ?_
   refine⟨some n,?_,rfl,⟨rfl,trivial⟩,trivial,rfl⟩
   cases j with
   | none=>simp;omega
   | some v0=>exact hlt v0 rfl
end
end Go.Proofs
end
section
namespace Go.LL
open Go.Conc
open Go.ConcN (sumTo upd sumTo_upd upd_ne upd_same)
noncomputable def prP (p:Program):Prg:={ toProgram:=p,still:=fun _=>false,stillNil:=fun _ _=>rfl,toEnv:=envP p }
def ts0 (K nx:Nat):Ts:={ tag:=fun j=>if j=0 then [30,0] else [0],next:=nx,more:=K,mu:=⟨0,0,0,0,0⟩,wg:=⟨0,0,0⟩,log:=[] }
section
variable  {c:Cx}
theorem ts0_ct {K nx:Nat}{g:Nat->Nat}(h0:g 0=0)(h30:g 30=0):Ct g (ts0 K nx).tag nx=0:=by
 refine Zdr fun i _=>?_
 by_cases e:i=0
 ·subst e;exact h30
 ·simp only[ts0,if_neg e];exact h0
theorem ts0_cnt (hb:1<=c.base):Cnt c (ts0 c.K c.base):=by
 have z:∀ g:Nat->Nat,g 0=0->g 30=0->Ct g (ts0 c.K c.base).tag (ts0 c.K c.base).next=0:=fun g=>ts0_ct
 have t0:(ts0 c.K c.base).tag 0=[30,0]:=rfl
 have tj:∀ j,j≠0->(ts0 c.K c.base).tag j=[0]:=fun j hj=>by simp[ts0,hj]
 refine⟨⟨?_,Nat.zero_le 1,Nat.zero_le 1,Nat.zero_le 1,?_,fun e=>by simp[ts0]at e⟩,⟨?_,?_,?_,?_,?_,?_⟩,fun j hj=>?_,fun v=>?_,fun k n hk hl=>?_,fun j hj hc=>?_,rfl,hb,Nat.le_refl _,fun j h1 h2=>tj j (by omega),fun j h1 h2=>?_,List.nodup_nil,fun j hj=>?_,fun j h1 h2=>?_⟩
 ·exact(z Zaq rfl rfl).symm
 ·intro _
  rw[z cQ rfl rfl,z cR rfl rfl,z cT rfl rfl,z cA rfl rfl]
  exact⟨rfl,rfl,fun _ h=>by simp[ts0]at h⟩
 ·show 0=Ct cW _ _+mP (cd [30,0])
  rw[z cW rfl rfl];rfl
 ·show 30<=cd [30,0];simp[cd]
 ·intro h;rw[t0]at h;simp[cd]at h
 ·intro h;rw[t0]at h;simp[cd]at h
 ·intro _
  exact⟨rfl,rfl,z cL rfl rfl,z cE rfl rfl⟩
 ·intro h;rw[t0]at h;simp[cd]at h
 ·by_cases e:j=0
  ·subst e;rw[t0];exact Mu.says_main (by simp[cd])
  ·rw[tj j e];trivial
 ·rw[t0];simp
 ·rw[t0]at hl;simp at hl;show c.base=c.base+n;omega
 ·by_cases e:j=0
  ·subst e;rw[t0]at hc;simp[cd]at hc
  ·rw[tj j e]at hc;simp[cd]at hc
 ·have:j<c.base:=h2
  omega
 ·simp[ts0]at hj
 ·have:j<c.base:=h2
  omega
end
structure Zlq (H:Hp)(M W:Nat)(tM tW:TypeId)(Hm Hl:Hp):Prop where
 ne:M≠W
 atM:H M=some (.cells #[.int .i32 (0:Nat),.int .u32 (0:Nat)] tM,true)
 atW:H W=some (.cells #[.int .u64 (0:Nat),.int .u32 (0:Nat)] tW,true)
 own:∀ b x,Hm b=some x->H b=some x∧b≠M∧b≠W∧Hl b=none
 pool:∀ b x,Hl b=some x->H b=some x∧b≠M∧b≠W
theorem ZlK {p:Program}{Hx:Hp}{gs:Array Goroutine}{w:World}{t:Trace}{q:Nat->Nat}(ha:Alone p Hx gs w t q){c:Cx}{Hm Hl:Hp}(hS:Zlq Hx c.M c.W c.tM c.tW Hm Hl)(hgs:0<gs.size)(hb:c.base=gs.size)(hn:c.n0=t.size)(hold:∀ l,c.old l↔∃ b,l.blk=some b∧Unk t b)
  (hPI:c.PI [] Hl):CInv c (ts0 c.K gs.size) ((mwH c (ts0 c.K gs.size)).join Hl) t:=by
 have t0:(ts0 c.K gs.size).tag 0=[30,0]:=rfl
 have tj:∀ j,j≠0->(ts0 c.K gs.size).tag j=[0]:=fun j hj=>by simp[ts0,hj]
 have hlive:∀ j,c.live gs.size j->j=0:=fun j hj=>by have:=hj.2;have:=hj.1;omega
 have hknow:∀ q x a b y,t[q]? = some x->x.act.touch? = some a->a.loc.blk=some b->Hx b=some y->Knows t 0 q:=by
  intro q x a b y hx hxa hbl hy
  refine Classical.byContradiction fun hn=>?_
  have:=ha.unk (b:=b) ⟨q,a,by rw[touchAt_of hx];exact hxa,hbl,hn⟩
  rw[hy]at this;simp at this
 refine⟨by rw[<-hb];exact ts0_cnt (by omega),⟨by omega,by omega,?_,?_,?_,?_,?_,?_,?_,?_⟩,fun j hj hc=>?_,fun h=>?_,.inr ⟨?_,Hl,rfl,⟨fun b x y h1 h2=>?_,.inl rfl⟩,hPI⟩⟩
 ·intro q x hx hq
  have:=lt_size_of_getElem? hx
  omega
 ·intro q x a hx hxa hs
  refine .inr fun j hj=>?_
  rw[hlive j hj]
  obtain⟨b,hbl,rfl | rfl⟩:=hs
  ·exact hknow q x a _ _ hx hxa hbl hS.atM
  ·exact hknow q x a _ _ hx hxa hbl hS.atW
 ·intro q x a b hx hxa hbl hp
  refine .inl fun j hj=>?_
  rw[hlive j hj]
  obtain⟨⟨y,hy⟩,b1,b2⟩:=hp
  simp only[Hp.join_at,Zbo b1 b2]at hy
  exact hknow q x a b y hx hxa hbl (hS.pool b y hy).1
 ·intro q x a hx hxa hm h1 h2
  have h2:x.g<gs.size:=h2
  omega
 ·intro q x a hx hq hxa hm
  rcases ha.past.known q a (by rw[touchAt_of hx];exact hxa) hm with h1 | ⟨⟨b,h1,_⟩,h2⟩
  ·exact .inl h1
  ·by_cases hk:Knows t 0 q
   ·exact .inl hk
   ·exact .inr ⟨h2,(hold _).2 ⟨b,h1,q,a,by rw[touchAt_of hx];exact hxa,h1,hk⟩⟩
 ·intro q x hx hq hg hc
  obtain⟨j,h1,h2⟩:=ha.past.over q x.g (by unfold Trace.g?;rw[hx];rfl) hg hc
  obtain⟨y,hy,hyg⟩:=Option.map_eq_some_iff.1 h1
  exact⟨j,y,hy,hyg,h2⟩
 ·intro q x a hx hq
  have:=lt_size_of_getElem? hx
  omega
 ·intro q x hx hq
  have:=lt_size_of_getElem? hx
  omega
 ·obtain rfl:=hlive j hj
  rw[ha.past.hears];rfl
 ·rw[t0]at h;simp[cd]at h
 ·rintro⟨j,hj,e⟩
  by_cases e0:j=0
  ·subst e0;rw[t0]at e;simp[cd]at e
  ·rw[tj j e0]at e;simp[cd]at e
 ·obtain⟨h3,h4,h5⟩:=hS.pool b y h2
  rcases(Zcb h1).1 with rfl | rfl
  ·exact absurd rfl h4
  ·exact absurd rfl h5
theorem ZkT {p:Program}{R:Frame->List Frame->Hp->Prop}{fr:Frame}{cs:List Frame}{Hx:Hp}{M W K:Nat}{tM tW:TypeId}{need:Nat->Nat->Bool}{PI:Nat->List Nat->Hp->Prop}{Hm Hl:Hp}(hS:Zlq Hx M W tM tW Hm Hl)(hPI:∀ base,PI base [] Hl)
  (ok:∀ base n0 old,Cx.Ok { M,W,base,n0,old,tM,tW,K,need:=need base,PI:=PI base }) (hg:Hm.gh=[30,0])
  (hwalk:∀ base n0 old,1<=base->Reach (team p { M,W,base,n0,old,tM,tW,K,need:=need base,PI:=PI base }).prgM
   (fun fr' cs' H'=>H'.gh=[40]∧∀ H2:Hp,H2.gh=Hx.gh->(∀ b,H2 b=none↔H' b=none)->(∀ b x y,H2 b=some x->H' b=some y->x.1=y.1∧(y.2=true->x.2=true)∧((∃ o,Hx b=some (o,true))->x.2=true)∧∀ o,Hx b=some (o,false)->x.2=true->y.2=true)->R fr' cs' H2) fr cs Hm):ZgC p R fr cs Hx:=by
 refine ZhA fun gs w t q ha h0=>?_
 have hlt0:0<gs.size:=(Array.getElem?_eq_some_iff.1 h0).1
 let c:Cx:={ M,W,base:=gs.size,n0:=t.size,old:=fun l=>∃ b,l.blk=some b∧Unk t b,tM,tW,K,need:=need gs.size,PI:=PI gs.size }
 have okc:c.Ok:=ok _ _ _
 have hS':Zlq Hx c.M c.W c.tM c.tW Hm Hl:=hS
 have hI:=ZlK (c:=c) ha hS' hlt0 rfl rfl (fun l=>Iff.rfl) (hPI _)
 have mwx:∀ b x,mwH c (ts0 c.K gs.size) b=some x->Hx b=some x:=by
  intro b x h
  rcases(Zcb h).1 with rfl | rfl
  ·rw[Zjg okc.ne]at h;obtain rfl:=Option.some.inj h;exact hS.atM
  ·rw[Ziz]at h
   have e:Zhl c (ts0 c.K gs.size).wg=.cells #[.int .u64 (0:Nat),.int .u32 (0:Nat)] tW:=by simp[Zhl,ts0,c]
   rw[e]at h
   obtain rfl:=Option.some.inj h
   exact hS.atW
 have hsx:∀ b x,((mwH c (ts0 c.K gs.size)).join Hl) b=some x->Hx b=some x:=by
  intro b x h
  simp only[Hp.join_at]at h
  cases hh:mwH c (ts0 c.K gs.size) b with
  | some z=>rw[hh]at h;exact mwx b x (hh.trans h)
  | none=>rw[hh]at h;exact(hS.pool b x h).1
 refine⟨team p c,ts0 c.K gs.size,(mwH c (ts0 c.K gs.size)).join Hl,Hm,_,⟨ZkF okc,hI,rfl,?_,fun j h1 h2=>?_,fun b o pm h=>ha.le b o pm (hS.own b _ h).1,fun b o pm h=>ha.le b o pm (hsx b _ h),fun b x y h1 h2=>?_,fun b x h=>.inr ⟨x,.inl (hS.own b x h).1,fun _=>rfl⟩,fun b x h=>.inr ⟨x,.inl (hsx b x h),fun _=>rfl⟩,?_,hwalk gs.size t.size _ hlt0,?_⟩⟩
 ·exact hg.symm
 ·show (ts0 c.K gs.size).tag j=[0]
  simp[ts0,h1]
 ·exfalso
  obtain⟨h3,h4,h5,h6⟩:=hS.own b x h1
  simp only[Hp.join_at]at h2
  cases hh:mwH c (ts0 c.K gs.size) b with
  | some z=>
   rcases(Zcb hh).1 with rfl | rfl
   ·exact h4 rfl
   ·exact h5 rfl
  | none=>rw[hh,h6]at h2;simp at h2
 ·show cAct _
  rw[hg];exact .inr (by simp[cd])
 ·rintro fr' cs' H' s' Hs' t' w' ⟨hgh,hR⟩ hinv htag hdis hle hleS hperm hlow hfr hfrS
  have hI':CInv c s' Hs' t':=hinv
  have htag':s'.tag 0=[40]:=(show s'.tag 0=H'.gh from htag).trans hgh
  obtain⟨f1,f2⟩:=hI'.fin (by rw[htag'];rfl)
  have hMn:H' M=none:=by
   cases hh:H' M with
   | none=>rfl
   | some y=>have:=hdis M _ _ hh (hI'.atM okc);rw[this.1]at this;simp at this
  have hWn:H' W=none:=by
   cases hh:H' W with
   | none=>rfl
   | some y=>have:=hdis W _ _ hh hI'.atW;rw[this.1]at this;simp at this
  refine⟨fun j h1 h2=>?_,fun i a h1 h2=>?_,f2,?_,?_⟩
  ·show s'.tag j=[0]
   by_cases hb:c.base<=j
   ·exact hI'.cnt.over (by rw[htag'];simp[cd]) hb h2
   ·exact hI'.cnt.olds j (by omega) (by omega)
  ·obtain⟨x,hx,hxa⟩:=touch_of h1
   rcases f1 i x a hx hxa h2 with h3 | ⟨h3,h4⟩
   ·exact .inl h3
   ·refine .inr ⟨h3,fun b hb=>?_⟩
    rcases h4 with ⟨b',hb',hu⟩ | ⟨b',hb',h5⟩
    ·rw[hb]at hb'
     obtain rfl:=Option.some.inj hb'
     refine⟨?_,.inl hu⟩
     cases hh:H' b with
     | none=>rfl
     | some y=>
      exfalso
      rcases hfr.nil hh with h6 | ⟨z,hz,_⟩
      ·obtain⟨i2,a2,g1,g2,_⟩:=hu
       obtain⟨x2,hx2,hxa2⟩:=touch_of g1
       exact absurd (ZeL hxa2 g2 (ha.past.seen x2 (mem_of_getElem? hx2))) (by omega)
      ·rw[ha.unk hu]at hz;simp at hz
    ·rw[hb]at hb'
     obtain rfl:=Option.some.inj hb'
     rcases h5 with rfl | rfl
     ·exact⟨hMn,.inr (.inr ⟨_,hS.atM⟩)⟩
     ·exact⟨hWn,.inr (.inr ⟨_,hS.atW⟩)⟩
  ·rw[hI'.deaf 0 ⟨hI'.cnt.next0,.inl rfl⟩ (by rw[htag'];simp[cd]),htag'];rfl
  ·classical
   let H2:Hp:=⟨fun b=>(H' b).map fun y=>(y.1,if (∃ o,Hx b=some (o,true)) then true else y.2),Hx.gh⟩
   have h2:∀ b,H2 b=(H' b).map fun y=>(y.1,if (∃ o,Hx b=some (o,true)) then true else y.2):=fun b=>rfl
   refine⟨H2,rfl,fun b x hx=>?_,hR H2 rfl (fun b=>?_) fun b x y hx hy=>?_⟩
   ·rw[h2]at hx
    obtain⟨y,hy,rfl⟩:=Option.map_eq_some_iff.1 hx
    refine⟨y,hy,rfl,fun e=>?_⟩
    simp only at e
    split at e
    ·rename_i h;exact .inr h
    ·exact .inl e
   ·rw[h2];simp
   ·rw[h2,hy]at hx
    obtain rfl:=Option.some.inj hx
    refine⟨rfl,fun e=>?_,fun e=>?_,fun o ho e=>?_⟩
    ·simp only;split
     ·rfl
     ·exact e
    ·simp only;rw[if_pos e]
    ·simp only at e
     rwa [if_neg (by rintro⟨o',h⟩;rw[ho]at h;simp at h)]at e
end Go.LL
end
section
namespace Go.LL
open Go.Conc
structure Upg (H H' H2:Hp):Prop where
 gh:H2.gh=H.gh
 dom:∀ b,H2 b=none↔H' b=none
 val:∀ b x y,H2 b=some x->H' b=some y->x.1=y.1∧(y.2=true->x.2=true)∧((∃ o,H b=some (o,true))->x.2=true)∧∀ o,H b=some (o,false)->x.2=true->y.2=true
def Spot (b:Frame)(k:List Item)(a:Act)(fr:Frame):Ex->Prop
 | .normal=>fr=on b a k
 | .ret=>∃ k',fr=on b a (.code .ret :: k')
 | .exit id=>(∃ k',exitTo id k=some k'∧fr=on b a k')∨(exitTo id k=none∧∃ k',exitTo id k'=none∧fr=on b a (.code (.exit id) :: k'))
theorem Zlw.spot {P:Prg}{G:Frame->List Frame->Hp->Prop}{b:Frame}{k:List Item}{cs:List Frame}{e:Ex}{a:Act}{H:Hp}:Zlw P G b k cs e a H↔∀ fr,Spot b k a fr e->Reach P G fr cs H:=by
 cases e with
 | normal=>exact⟨fun h fr e=>by rw[show fr=_ from e];exact h,fun h=>h _ rfl⟩
 | ret=>exact⟨fun h fr ⟨k',e⟩=>by rw[e];exact h k',fun h k'=>h _ ⟨k',rfl⟩⟩
 | exit id=>
  refine⟨fun h fr e=>?_,fun h=>⟨fun k' hk=>h _ (.inl ⟨k',hk,rfl⟩),fun hk k' hk'=>h _ (.inr ⟨hk,k',hk',rfl⟩)⟩⟩
  rcases e with ⟨k',hk,rfl⟩ | ⟨hk,k',hk',rfl⟩
  ·exact h.1 k' hk
  ·exact h.2 hk k' hk'
section
open Classical
noncomputable def Hp.inn (H2 H:Hp)(g:List Nat):Hp:=⟨fun b=>if H b=none then none else H2 b,g⟩
noncomputable def Hp.outn (H2 H:Hp)(g:List Nat):Hp:=⟨fun b=>if H b=none then H2 b else none,g⟩
theorem Hp.inn_at (H2 H:Hp)(g:List Nat)(b:Nat):H2.inn H g b=if H b=none then none else H2 b:=rfl
theorem Hp.outn_at (H2 H:Hp)(g:List Nat)(b:Nat):H2.outn H g b=if H b=none then H2 b else none:=rfl
theorem Hp.inn_outn (H2 H:Hp){g g':List Nat}(hg:H2.gh=g++g')(hh:g=[]∨g'=[]):H2=(H2.inn H g).join (H2.outn H g')∧(H2.inn H g).Comp (H2.outn H g'):=by
 refine⟨Hp.ext' (fun b=>?_) (by rw[Hp.join_gh];exact hg),⟨fun b x y h1 h2=>?_,hh⟩⟩
 ·simp only[Hp.join_at,Hp.inn_at,Hp.outn_at]
  by_cases e:H b=none
  ·simp[e]
  ·simp only[e,if_false]
   cases H2 b<;>rfl
 ·rw[Hp.inn_at]at h1
  rw[Hp.outn_at]at h2
  by_cases e:H b=none
  ·simp[e]at h1
  ·simp[e]at h2
end
theorem ZmH {p:Program}{n1 n2:Zaj}{Q:Ex->NSt->Hp->Prop}{σ:NSt}{H:Hp}{M W K:Nat}{tM tW:TypeId}{need:Nat->Nat->Bool}{PI:Nat->List Nat->Hp->Prop}{Hm Hl:Hp}(hS:Zlq H M W tM tW Hm Hl)(hPI:∀ base,PI base [] Hl)
  (ok:∀ base n0 old,Cx.Ok { M,W,base,n0,old,tM,tW,K,need:=need base,PI:=PI base })
  (hwalk:∀ base n0 old,1<=base->(Zaj.seq n1 n2).m (team p { M,W,base,n0,old,tM,tW,K,need:=need base,PI:=PI base }).prgM (fun e σ' H'=>H'.gh=[40]∧∀ H2:Hp,Upg H H' H2->Q e σ' H2) σ (Hm.tagged [30,0])):Esc (prP p) n1 n2 Q σ H:=by
 intro L m rd code act Ha hL tr r G b k cs hcl hfit hG
 obtain⟨ρ,K0,e1,e2,e3,e4,e5,e6⟩:=r.mem
 have hKn:∀ b x,H b=some x->x.2=true->K0 b=none:=by
  intro b x h1 h2
  cases hh:K0 b with
  | none=>rfl
  | some y=>have:=(e2 b x y h1 hh).2;rw[h2]at this;simp at this
 have hHa:∀ b x,H b=some x->Ha b=some x:=fun b x h=>by rw[e1];exact Hp.join_left h
 have hlw:∀ b x,Hl b=some x->x.2=true:=(ok 1 0 fun _=>False).own [] Hl (hPI 1)
 have hSA:Zlq Ha M W tM tW ((Hm.tagged [30,0]).join (K0.tagged [])) Hl:=by
  refine⟨hS.ne,hHa _ _ hS.atM,hHa _ _ hS.atW,fun b x h=>?_,fun b x h=>⟨hHa _ _ (hS.pool b x h).1,(hS.pool b x h).2⟩⟩
  simp only[Hp.join_at,Hp.tagged_at]at h
  cases hh:Hm b with
  | some z=>
   rw[hh]at h
   obtain rfl:=Option.some.inj h
   obtain⟨h1,h2⟩:=hS.own b z hh
   exact⟨hHa _ _ h1,h2⟩
  | none=>
   rw[hh]at h
   have h:K0 b=some x:=h
   refine⟨by rw[e1];exact Hp.join_right e2 h,?_,?_,?_⟩
   ·rintro rfl;rw[hKn _ _ hS.atM rfl]at h;simp at h
   ·rintro rfl;rw[hKn _ _ hS.atW rfl]at h;simp at h
   ·cases hl:Hl b with
    | none=>rfl
    | some y=>rw[hKn _ _ (hS.pool b y hl).1 (hlw b y hl)]at h;simp at h
 refine .shared (ZkT (R:=Reach (prP p) G) hSA hPI ok (by simp[Hp.join_gh,Hp.tagged]) fun base n0 old hb=>?_)
 have hcomp:(Hm.tagged [30,0]).Comp (K0.tagged []):=⟨fun b x y h1 h2=>e2 b x y (hS.own b x h1).1 h2,.inr rfl⟩
 have rM:Rel (team p { M,W,base,n0,old,tM,tW,K,need:=need base,PI:=PI base }).prgM.toPQ L m σ (Hm.tagged [30,0]) act ((Hm.tagged [30,0]).join (K0.tagged [])):=
  ⟨r.size,r.defers,ρ,K0.tagged [],rfl,hcomp,e3,e4,e5,⟨e6.1,e6.2.1,.inr fun _=>rfl⟩⟩
 refine ZaK (P:=(team p { M,W,base,n0,old,tM,tW,K,need:=need base,PI:=PI base }).prgM) hL tr (Zaj.m_w (fun _ _ _ h=>h) (hwalk base n0 old hb)) rM _ b k cs ?_ ⟨hfit.kind,hfit.top,hfit.nr⟩ ?_
 ·
  rintro fr' cs' H1 J hc ⟨hg,hR⟩
  have hJ:J.gh=[]:=hc.gh.resolve_left (by rw[hg];simp)
  refine⟨by rw[Hp.join_gh,hg,hJ];rfl,fun H2 g1 g2 g3=>?_⟩
  obtain⟨i1,i2⟩:=Hp.inn_outn H2 H1 (g:=H2.gh) (g':=[]) (by simp) (.inr rfl)
  rw[i1]
  refine Reach.up hcl (hR _ (by exact g1) (fun b=>?_) fun b x y hx hy=>?_) i2
  ·rw[Hp.inn_at]
   by_cases e:H1 b=none
   ·simp[e]
   ·simp only[e,if_false]
    rw[g2]
    simp only[Hp.join_at]
    cases hh:H1 b with
    | none=>exact absurd hh e
    | some z=>simp
  ·rw[Hp.inn_at,if_neg (by rw[hy];simp)]at hx
   exact g3 b x y hx (Hp.join_left hy)
 ·rintro e a' H1 ⟨σ',H0,r',hg,hq⟩
  rw[Zlw.spot]
  intro fr hfr
  obtain⟨ρ',K1,f1,f2,f3,f4,f5,f6⟩:=r'.mem
  have hK1:K1.gh=[]:=f2.gh.resolve_left (by rw[hg];simp)
  refine .stop ⟨by rw[f1,Hp.join_gh,hg,hK1];rfl,fun H2 g1 g2 g3=>?_⟩
  obtain⟨i1,i2⟩:=Hp.inn_outn H2 H0 (g:=H.gh) (g':=K0.gh) (by rw[g1,e1,Hp.join_gh]) e2.gh
  have hk:∀ b o,K1 b=some (o,true)->H2.outn H0 K0.gh b=some (o,true):=by
   intro b o h
   have h0:H0 b=none:=by
    cases hh:H0 b with
    | none=>rfl
    | some z=>have:=f2 b z _ hh h;rw[this.1]at this;simp at this
   rw[Hp.outn_at,if_pos h0]
   have h1:H1 b=some (o,true):=by rw[f1];exact Hp.join_right f2 h
   cases h2:H2 b with
   | none=>rw[g2,h1]at h2;simp at h2
   | some x=>
    obtain⟨j1,j2,_⟩:=g3 b x _ h2 h1
    rw[<-Option.some.inj (show some (x.1,x.2)=some (o,true) by rw[j1,j2 rfl])]
  have hrel:Rel (prP p).toPQ L m σ' (H2.inn H0 H.gh) a' H2:=by
   refine⟨r'.size,r'.defers,ρ',H2.outn H0 K0.gh,i1,i2,fun d cs hd=>?_,f4,f5,⟨f6.1,fun x hx=>hk _ _ (f6.2.1 x hx),.inr fun _=>rfl⟩⟩
   obtain⟨t,ht⟩:=f3 d cs hd
   exact⟨t,hk _ _ ht⟩
  have hup:Upg H H0 (H2.inn H0 H.gh):=by
   refine⟨rfl,fun b=>?_,fun b x y hx hy=>?_⟩
   ·rw[Hp.inn_at]
    by_cases e:H0 b=none
    ·simp[e]
    ·simp only[e,if_false]
     rw[g2,f1]
     simp only[Hp.join_at]
     cases hh:H0 b with
     | none=>exact absurd hh e
     | some z=>simp
   ·rw[Hp.inn_at,if_neg (by rw[hy];simp)]at hx
    obtain⟨j1,j2,j3,j4⟩:=g3 b x y hx (by rw[f1];exact Hp.join_left hy)
    exact⟨j1,j2,fun ⟨o,ho⟩=>j3 ⟨o,hHa _ _ ho⟩,fun o ho=>j4 o (hHa _ _ ho)⟩
  have:=hG e a' H2 ⟨σ',_,hrel,hq _ hup⟩
  exact Zlw.spot.1 this fr hfr
end Go.LL
end
section
namespace Go.LL
open Go.Conc
theorem ZgB:Zdq Zcr:=fun _ _ _ _ _ h=>h
theorem ZiS {p:Program}{fr:Frame}(h:p.funcs[fr.fn]? = none)(ht:fr.todo=[]):fr.catches p=false:=by
 unfold Frame.catches
 rw[h,ht]
theorem ZkQ {p:Program}{c:Cx}{i:Nat}{f:FuncId}{fn:Func}{cap args:Array Value}{H:Hp}(hf:p.funcs[f]? = some fn)(hb:fn.body.isSome=true)(hn:(fn.name == "runtime.NumGoroutine")=false)
  (h:ZbE ((team p c).prgW i) .deferred f (args++cap) H fun _ H'=>H'.gh=lv 0):Reach ((team p c).prgW i) Zcr (ZcI p { target:=.fn (.func f) cap,args:=args }) [] H:=by
 have hbn:fn.body.isNone=false:=by simpa using hb
 have hf':((team p c).prgW i).funcs[f]? = some fn:=hf
 have fin:∀ H':Hp,H'.gh=lv 0->Reach ((team p c).prgW i) Zcr { ZcI p { target:=.fn (.func f) cap,args:=args } with defers:=[] } [] H':=by
  intro H' hg
  refine .shared ⟨by rw[hg];simp[lv],.inl ⟨0,hg,.inr ⟨rfl,{ frame:={ ZcI p { target:=.fn (.func f) cap,args:=args } with defers:=[] },callers:=[],status:=.finished,dying:=none },rfl,fun w=>?_⟩⟩⟩
  have hc:Frame.catches p { ZcI p { target:=.fn (.func f) cap,args:=args } with defers:=[] }=false:=ZiS (by simp) rfl
  have e:stepG p false (gor { ZcI p { target:=.fn (.func f) cap,args:=args } with defers:=[] } []) w=unwind p false { ZcI p { target:=.fn (.func f) cap,args:=args } with defers:=[] } [] none w:=rfl
  rw[e]
  unfold unwind
  simp only[hc,Bool.false_eq_true,if_false]
  rfl
 refine .sem (s:=invoke (.fn (.func f) cap) args) (Q:=fun n _ H'=>n=.enter f (args++cap)∧H'=H) ?_ ?_
 ·simp only[invoke,callFunc,Zaa,ZaU,hf',hn,hbn,Bool.false_eq_true,if_false]
  exact⟨rfl,rfl⟩
 ·rintro n H0 ⟨rfl,rfl⟩
  refine⟨Frame.enter p f (args++cap) .deferred,[{ ZcI p { target:=.fn (.func f) cap,args:=args } with defers:=[] }],fun main w w' es e1=>⟨seen p p.funcs.size es,?_,.inr rfl⟩,fun H' e3=>?_⟩
  rotate_left
  ·obtain⟨_,rfl⟩:=e3
   exact h Zcr { ZcI p { target:=.fn (.func f) cap,args:=args } with defers:=[] } [] ZgB (by unfold Zl7 okD;trivial) fun v H'' hv=>fin H'' hv
  ·have hs:stepG p main (gor (ZcI p { target:=.fn (.func f) cap,args:=args }) []) w=callDeferred p { ZcI p { target:=.fn (.func f) cap,args:=args } with defers:=[] } [] none { target:=.fn (.func f) cap,args:=args } w:=by
    have:stepG p main (gor (ZcI p { target:=.fn (.func f) cap,args:=args }) []) w=unwind p main (ZcI p { target:=.fn (.func f) cap,args:=args }) [] none w:=rfl
    rw[this]
    exact ZjK rfl rfl
   refine hs.trans ?_
   exact(ZaT rfl e1).1 f _ rfl
end Go.LL
end
section
namespace Go.LL
open Go.Conc
section
variable  {P:Prg}{d:Option Nat}{next:NSt->Hp->Prop}{σ:NSt}{H:Hp}{x:Operand}
theorem om_go {f:FuncId}{first cap:Array Value}{xs:Array Operand}{ts:Array TypeId}{ty:TypeId}{vs:List Value}(e:σ.get x=some (.func (.func f) first cap))(ha:σ.gets xs.toList=some vs){Post:Value->Hp->Prop}
  (h:ShOp P (pure (.spawn { target:=.fn (.func f) cap,args:=first++vs.toArray })) false false H Post) (hn:∀ v H',Post v H'->next (σ.set d v) H') :
  (NOp.raw (.go { callee:=.value x,args:=xs,argTypes:=ts }) ty).m P d next σ H:=by
 obtain⟨h1,h2⟩:=Zb3 ha
 have hop:((Op.go { callee:=.value x,args:=xs,argTypes:=ts }).operands.all fun x=>(σ.get x).isSome)=true:=by
  rw[Array.all_eq_true_iff_forall_mem]
  intro y hy
  simp only[Op.operands,Call.operands]at hy
  simp only[List.all_eq_true]at h2
  simp only[List.cons_append,List.nil_append,Array.mem_append,List.mem_toArray,List.mem_singleton,Array.mem_toList_iff]at hy h2
  rcases hy with rfl | hy
  ·rw[e];rfl
  ·exact h2 y hy
 refine⟨hop,.inr ?_⟩
 have:execOp (fun x=>(σ.get x).getD undef) (bare (.go { callee:=.value x,args:=xs,argTypes:=ts }) ty)=pure (.spawn { target:=.fn (.func f) cap,args:=first++vs.toArray }):=by
  obtain⟨xs⟩:=xs
  have h1':List.map (fun x=>(σ.get x).getD undef) xs=vs:=h1
  simp[execOp,bare,resolve,Deferred.ofValue,e,List.map_toArray,h1']
 rw[this]
 exact h.mono hn
end
end Go.LL
end
