import Derived.Test.YthmnpenamnoniaaGreatDoorSw00
import Derived.Conc.HoldsTime
import Derived.Test.YthmnpenamnoniaaGreatDoorTie
import Derived.Test.YthmnpenamnoniaaGreatDoorCards
import Derived.ProofKit
import Derived.LaidMore
import Derived.Carry
import Derived.Stop.Joined
import Derived.OpenShut
set_option linter.all false
section
open Go Go.LL
namespace Go.LL
theorem War {P:Prg}{f0:FuncId}{G:Frame->List Frame->Hp->Prop}{cs:List Frame}{fn:Func}{Post:Value->Hp->Prop}(hcl:Zdq G)
  (hG:∀ (fr:Frame) (H:Hp),fr.mode=.returning->fr.defers=[]->fr.fn=f0∧fr.kind=.normal->P.funcs[fr.fn]? = some fn->wpL P (results fn fr.tmps) (fun v _ H'=>Post v H') false H->Reach P G fr cs H) :
  ∀ (ds:List Deferred) (fr:Frame) (H:Hp),fr.mode=.returning->fr.defers=ds->fr.fn=f0∧fr.kind=.normal->P.funcs[fr.fn]? = some fn->Unw P fn fr.tmps Post ds H->Reach P G fr cs H:=by
 intro ds
 induction ds with
 | nil=>
  intro fr H hm hd hk hf h
  exact hG fr H hm hd hk hf h
 | cons d ds ih=>
  intro fr H hm hd hk hf h
  have back:∀ H',Unw P fn fr.tmps Post ds H'->Reach P G { fr with defers:=ds } cs H':=fun H' hu=>ih { fr with defers:=ds } H' hm rfl hk hf hu
  have hcol:(∃ r,d.target=.collected r)∨(Za4 d.target=true∧(wpL P (invoke d.target d.args) (fun n _ H'=>UnwN P (Unw P fn fr.tmps Post ds) n H') false H ∨
    (Vals P.toProgram (invoke d.target d.args)∧ShOp P (invoke d.target d.args) false false H fun _ H'=>Unw P fn fr.tmps Post ds H'))):=by
   simp only[Unw]at h
   split at h
   ·exact .inl ⟨_,‹_›⟩
   ·exact .inr h
  rcases hcol with ⟨r,hr⟩ | hcol
  ·simp only[Unw,hr]at h
   obtain⟨hst,h1,h2⟩:=h
   refine .sem (s:=Instr.takeDeferred r) (Q:=fun v _ H'=>v=[]∧H'=H.ins r (.deferred none)) ?_ ?_
   ·simp only[Instr.takeDeferred,Zaa,getObj,setObj]
    exact⟨_,_,⟨hst,h1⟩,rfl,rfl,_,⟨hst,h1⟩,rfl,rfl,rfl,rfl,rfl⟩
   ·rintro v H0 ⟨rfl,_⟩
    refine⟨{ fr with defers:=ds },cs,fun main w w' es e1=>⟨seen P fr.fn es,?_,.inr rfl⟩,fun H' e3=>?_⟩
    ·rw[ZeY hm]
     obtain⟨tg,da⟩:=d
     simp only at hr
     subst hr
     unfold unwind
     rw[hd]
     simp only[e1,GStep.after,List.nil_append,Array.append_empty]
    ·rw[e3.2]
     exact back _ h2
  obtain⟨ht,h⟩:=hcol
  have hstep:∀ main w,stepG P main (gor fr cs) w=callDeferred P { fr with defers:=ds } cs none d w:=by
   intro main w
   rw[ZeY hm]
   exact ZjK hd ht
  rcases h with h | ⟨hv,h⟩
  case inr=>
   refine h G fr (fun _=>{ fr with defers:=ds }) cs hcl ⟨fun main cs w w' v es e1=>?_,.inl hv,.inl hv,fun h=>by simp at h,fun h=>by simp at h⟩ fun v H' hu=>back _ hu
   rw[ZeY hm,ZjK hd ht]
   exact(ZaT ht e1).2 (.inl ⟨v,rfl⟩)
  refine .sem h ?_
  intro n H0 h0
  cases n with
  | enter f args=>
   refine⟨_,_,fun main w w' es e1=>⟨seen P fr.fn es,?_,.inr rfl⟩,fun H' e3=>e3 G _ cs hcl (show okD { fr with defers:=ds } by unfold okD;rw[hm];trivial) fun v H'' hv=>back _ hv⟩
   rw[hstep]
   exact(ZaT ht e1).1 f args rfl
  | value v=>
   refine⟨{ fr with defers:=ds },cs,fun main w w' es e1=>⟨seen P fr.fn es,?_,.inr rfl⟩,fun H' e3=>back _ e3⟩
   rw[hstep]
   exact(ZaT ht e1).2 (.inl ⟨v,rfl⟩)
  | skip=>
   refine⟨{ fr with defers:=ds },cs,fun main w w' es e1=>⟨seen P fr.fn es,?_,.inr rfl⟩,fun H' e3=>back _ e3⟩
   rw[hstep]
   exact(ZaT ht e1).2 (.inr rfl)
  | _=>exact h0.elim
theorem TopG.closed (P:Program)(f:FuncId)(fn:Func)(t:Nat)(v:Value):Zdq (TopG P f fn t v):=fun _ _ _ _ _ h=>h
theorem Wbd {P:Prg}{f:FuncId}{fn:Func}{k t:Nat}{n:Zaj}{rs:List NRes}{v0:Value}(h:IsN P f k n rs)(hfn:P.funcs[f]? = some fn)(hres:fn.results=#[.tmp t]){args:List Value}{H:Hp}(hk:args.length=k)
  (hw:n.m P (MFin P rs fun v _=>v=v0) (env0 args) H):Reach P (TopG P f fn t v0) (Frame.enter P f args.toArray .normal) [] H:=by
 obtain⟨fn',L,h1,h2,h3,h4⟩:=h
 obtain rfl:fn'=fn:=Option.some.inj (h1.symm.trans hfn)
 rw[Bool.and_eq_true,Bool.and_eq_true,decide_eq_true_eq]at h4
 obtain⟨body,hb,hn⟩:=Option.bind_eq_some_iff.1 h2
 subst hk
 have hwn:NFn n rs P args (fun v _=>v=v0) H:=by
  unfold NFn
  refine Zaj.m_w ?_ hw
  intro e σ H h
  cases e<;>exact h
 obtain⟨⟨hl,hm⟩,hnr⟩:=h4
 have hrel:Rel P L fn'.ntmps (env0 args) H ⟨args.toArray++Array.replicate (fn'.ntmps-args.toArray.size) undef,[]⟩ H:=by
  refine⟨by simp;omega,rfl,fun _=>0,.nil,?_,?_,?_,?_,?_,.nil _ _⟩
  ·exact(Hp.join_nil H).symm
  ·exact Hp.comp_nil H
  ·intro d cs h;simp[env0]at h
  ·intro d d' cs cs' h;simp[env0]at h
  ·intro t v ht
   simp only[env0]at ht
   have hlt:t<args.length:=by
    rcases Nat.lt_or_ge t args.length with h | h
    ·exact h
    ·simp[List.getElem?_eq_none h]at ht
   have hno:L.lookup t=none:=by
    cases hh:L.lookup t with
    | none=>rfl
    | some d=>
     obtain⟨l1,l2,rfl,_⟩:=List.lookup_eq_some_iff.1 hh
     have:=List.all_eq_true.1 hl (t,d) (by simp)
     simp at this
     omega
   unfold RelV
   rw[hno]
   simp[Array.getElem?_append,hlt]
   rw[List.getElem?_eq_getElem hlt]at ht
   simpa using ht
 have htri:Tri P ⟨true,fn'.norace⟩ body (fun e a H=>match e with | .exit _=>False | _=>Unw P fn' a.tmps (fun v H'=>∃ H1 J:Hp,H'=H1.join J∧H1.Comp J∧v=v0) a.defers H) ⟨args.toArray++Array.replicate (fn'.ntmps-args.toArray.size) undef,[]⟩ H:=by
  refine(ZaK (rd:=⟨true,fn'.norace⟩) (fun h=>by rw[h]at hnr;simpa using hnr) hn hwn hrel).mono ?_
  rintro e ⟨at_,ad⟩ Ha ⟨σ,H',r,hq⟩
  cases e with
  | normal=>exact ZjL h3 _ _ _ _ r hq
  | ret=>exact ZjL h3 _ _ _ _ r hq
  | exit id=>exact hq.elim
 have he:Frame.enter P f args.toArray .normal=on (Frame.enter P f args.toArray .normal) ⟨args.toArray++Array.replicate (fn'.ntmps-args.toArray.size) undef,[]⟩ [.code body]:=by
  simp[Frame.enter,on,hfn,hb]
 rw[he]
 have hr:(Frame.enter P f args.toArray .normal).roundOf=none:=rfl
 have last:∀ (fr:Frame) (H:Hp),fr.mode=.returning->fr.defers=[]->fr.fn=f∧fr.kind=.normal->P.funcs[fr.fn]? = some fn'->wpL P (results fn' fr.tmps) (fun v _ H'=>(fun v H'=>∃ H1 J:Hp,H'=H1.join J∧H1.Comp J∧v=v0) v H') false H->Reach P (TopG P f fn' t v0) fr [] H:=by
  intro fr H a1 a2 ak a3 a4
  rw[Zif hres,Zac]at a4
  obtain⟨_,_,_,_,hv⟩:=a4
  exact .stop ⟨rfl,a1,a2,ak,a3,hres,hv⟩
 refine htri (TopG P f fn' t v0) _ [] [] (TopG.closed _ _ _ _ _) ⟨by simp[Frame.enter],fun _=>hr,fun h=>by simp only[norace,Frame.enter,hfn,Option.any_some];exact h⟩ ?_
 intro e a H' hq
 cases e with
 | normal=>
  refine .pure (fr':={ on (Frame.enter P f args.toArray .normal) a []with mode:=.returning }) (cs':=[]) (fun main w=>exec_end hr) ?_
  exact War (TopG.closed _ _ _ _ _) last _ _ _ rfl rfl ⟨rfl,rfl⟩ hfn hq
 | ret=>
  intro k'
  refine .pure (fr':={ on (Frame.enter P f args.toArray .normal) a (.code .ret :: k') with mode:=.returning }) (cs':=[]) (fun main w=>exec_ret hr) ?_
  exact War (TopG.closed _ _ _ _ _) last _ _ _ rfl rfl ⟨rfl,rfl⟩ hfn hq
 | exit id=>exact hq.elim
open Go.Conc (Knows Deaf touchAt QuitsD crowd woken Leavers Past)
end Go.LL
end
section
open Go Go.LL Go.Conc Go.ConcM
namespace Go.Proofs
theorem gChecks:Tryz.prog.globalNamed "ribband/spile.checks" = some 1:=by kernel_rfl
end Go.Proofs
end
section
open Go Go.LL Go.Conc Go.ConcM
namespace Go.Proofs
open YthmnpenamnoniaaGreatDoor
theorem tChecks:(Tryz.prog.globals[1]?).map (·.type)=some 234:=by kernel_rfl
def laidS:List (String×DataW Unit):=[("ribband/spile.checks",Rows.laid_ribband_spile_checks)]
theorem doorMetS (os:Os)(args:Array Value):laidMetH Tryz.prog laidS ((World.doorLaid Tryz.prog 600 os).forCall (fun _ _=>0) ⟨#[],args,[]⟩).memory:=
 laidMetH_of_parts3 (fuel:=8) (laidMet_of_run' 8 (by kernel_rfl) (by kernel_rfl)) (by kernel_rfl) (by kernel_rfl)
end Go.Proofs
end
section
open Go Go.LL Go.Conc Go.ConcM
namespace Go.Proofs
open YthmnpenamnoniaaGreatDoor
section
variable  {H:Type}{enc:TypeId×Value->H}{W:World}{base:Nat}{sp:Nat->Bool}{held:Bool}{fuel:Nat}{cs:List Value}{y:DataW H×List MemPlace}
end
theorem Wbs:Tryz.prog.cellsOf 234=3:=by kernel_rfl
theorem Wbt:Tryz.prog.cellsOf 233=1:=by kernel_rfl
set_option maxRecDepth 100000 in
theorem Wbq {W:World}{L:List (String×DataW Unit)}(hm:("ribband/spile.checks",Rows.laid_ribband_spile_checks)∈L)(h:laidMetH Tryz.prog L W):Zbh (roW W):=by
 obtain⟨g,t,cs,fuel,p,hg,ht,hv,hd⟩:=h.funcs hm
 obtain rfl:=Option.some.inj (gChecks.symm.trans hg)
 obtain rfl:=Option.some.inj (tChecks.symm.trans ht)
 obtain⟨xs,n,rfl,hx,hl,hn,hE⟩:=DataW.trod_array Tryz.underlying234 hd
 rw[Wbs]at hl
 have e0:=hE 0 (by decide)
 have e1:=hE 1 (by decide)
 have e2:=hE 2 (by decide)
 rw[Wbt]at e0 e1 e2
 obtain⟨x0,x1,x2,rfl⟩:∃ a b c,xs=[a,b,c]:=by
  match xs,hn with
  | [a,b,c],_=>exact⟨a,b,c,rfl⟩
 obtain⟨c0,c1,c2,hcs⟩:∃ a b c,cs.toList=[a,b,c]:=by
  match h:cs.toList,hl with
  | [a,b,c],_=>exact⟨a,b,c,rfl⟩
 rw[hcs]at e0 e1 e2
 have hx1:DataW.agg [.held [40,114,105,98,98,97,110,100,47,115,112,105,108,101,46,98,111,111,107,41,46,99,111,109,112,97,115,115],.held [40,114,105,98,98,97,110,100,47,115,112,105,108,101,46,98,111,111,107,41,46,112,111,105,110,116,115],.held [40,114,105,98,98,97,110,100,47,115,112,105,108,101,46,98,111,111,107,41,46,99,104,101,99,107,101,100]]=DataW.agg [x0.1,x1.1,x2.1]:=(Prod.mk.inj hx).1
 simp only[DataW.agg.injEq,List.cons.injEq,and_true]at hx1
 obtain⟨k0,k1,k2⟩:=hx1
 obtain⟨y0,z0⟩:=x0
 obtain⟨y1,z1⟩:=x1
 obtain⟨y2,z2⟩:=x2
 dsimp only at k0 k1 k2
 subst k0 k1 k2
 obtain rfl:=Go.func_of_trod (f0:=267) Tryz.underlying233 (by kernel_rfl) e0
 obtain rfl:=Go.func_of_trod (f0:=268) Tryz.underlying233 (by kernel_rfl) e1
 obtain rfl:=Go.func_of_trod (f0:=269) Tryz.underlying233 (by kernel_rfl) e2
 have hcs':cs=#[vf 267,vf 268,vf 269]:=by rw[<-Array.toArray_toList (xs:=cs),hcs]
 subst hcs'
 have h0:=World.var?_cell hg hv
 obtain⟨_,o,ho,_⟩:=ZdR (h0 0)
 refine⟨rfl,o,false,by rw[ZlS];rw[ho];rfl,fun j hj=>?_⟩
 match j,hj with
 | 0,_=>obtain⟨_,o',ho',hc⟩:=ZdR (h0 0);rw[ho]at ho';obtain rfl:=Option.some.inj ho';exact hc
 | 1,_=>obtain⟨_,o',ho',hc⟩:=ZdR (h0 1);rw[ho]at ho';obtain rfl:=Option.some.inj ho';exact hc
 | 2,_=>obtain⟨_,o',ho',hc⟩:=ZdR (h0 2);rw[ho]at ho';obtain rfl:=Option.some.inj ho';exact hc
end Go.Proofs
end
section
open Go Go.LL Go.Conc Go.ConcM
namespace Go.Proofs
open YthmnpenamnoniaaGreatDoor Go.ChangeShapes Go.WideShapes
section
set_option maxRecDepth 100000
variable  {H:Type}{enc:TypeId×Value->H}{W:World}{base:Nat}{sp:Nat->Bool}{held:Bool}{fuel:Nat}{cs:List Value}{y:DataW H×List MemPlace}{r:Reach}{b0:Nat}{v:Value}{d:DataW H}{ps:List MemPlace}
theorem Wa9 (hval:Value.okWide Tryz.prog W r b0 5 v)(hd:DataW.Trod enc Tryz.prog W base sp held 5 v d ps):∃ n,v=.int .u8 n∧0<=n∧n<256:=by
 obtain⟨n,rfl,_,_,hw⟩:=open_int Tryz.underlying5 hval hd
 simp only[Lit.wf,Bool.and_eq_true,decide_eq_true_eq]at hw
 have h1:IntKind.u8.min=0:=rfl
 have h2:IntKind.u8.max=255:=rfl
 exact⟨n,rfl,by omega,by omega⟩
end
end Go.Proofs
end
