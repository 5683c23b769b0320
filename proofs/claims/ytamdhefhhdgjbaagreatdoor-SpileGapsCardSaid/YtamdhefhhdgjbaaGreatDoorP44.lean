/- proofs about Leango given: part P44; made by a program out of the longer texts in wip -/
import Derived.Test.YtamdhefhhdgjbaaGreatDoorP43
import Derived.Conc.HoldsTime
import Derived.Test.YtamdhefhhdgjbaaGreatDoorTie
import Derived.Test.YtamdhefhhdgjbaaGreatDoorCards
import Derived.ProofKit
import Derived.LaidMore
import Derived.Carry
import Derived.Stop.Joined
import Derived.OpenShut
import Derived.SevenTiedAt
set_option linter.all false
section
open Go Go.LL
namespace Go.LL
theorem ZgS {P:Prg}{f0:FuncId}{G:Frame->List Frame->Hp->Prop}{cs:List Frame}{fn:Func}{Post:Value->Hp->Prop}(hcl:ZcO G)
  (hG:∀ (fr:Frame) (H:Hp),fr.mode=.returning->fr.defers=[]->fr.fn=f0∧fr.kind=.normal->P.funcs[fr.fn]? = some fn->wpL P (results fn fr.tmps) (fun v _ H'=>Post v H') false H->Reach P G fr cs H) :
  ∀ (ds:List Deferred) (fr:Frame) (H:Hp),fr.mode=.returning->fr.defers=ds->fr.fn=f0∧fr.kind=.normal->P.funcs[fr.fn]? = some fn->Unw P fn fr.tmps Post ds H->Reach P G fr cs H:=by
 intro ds
 induction ds with
 | nil=>
  intro fr H hm hd hk hf h
  exact hG fr H hm hd hk hf h
 | cons d ds ih=>
  intro fr H hm hd hk hf h
  have back:∀ H',Unw P fn fr.tmps Post ds H'->Reach P G { fr with defers:=ds } cs H':=fun H' hu=>ih { fr with defers:=ds } H' hm rfl hk hf hu
  have hcol:(∃ r,d.target=.collected r)∨(ZaV d.target=true∧(wpL P (invoke d.target d.args) (fun n _ H'=>UnwN P (Unw P fn fr.tmps Post ds) n H') false H ∨
    (Vals P.toProgram (invoke d.target d.args)∧ShOp P (invoke d.target d.args) false false H fun _ H'=>Unw P fn fr.tmps Post ds H'))):=by
   simp only[Unw]at h
   split at h
   ·exact .inl ⟨_,‹_›⟩
   ·exact .inr h
  rcases hcol with ⟨r,hr⟩ | hcol
  ·simp only[Unw,hr]at h
   obtain⟨hst,h1,h2⟩:=h
   refine .sem (s:=Instr.takeDeferred r) (Q:=fun v _ H'=>v=[]∧H'=H.ins r (.deferred none)) ?_ ?_
   ·simp only[Instr.takeDeferred,Zaa,getObj,setObj]
    exact⟨_,_,⟨hst,h1⟩,rfl,rfl,_,⟨hst,h1⟩,rfl,rfl,rfl,rfl,rfl⟩
   ·rintro v H0 ⟨rfl,_⟩
    refine⟨{ fr with defers:=ds },cs,fun main w w' es e1=>⟨seen P fr.fn es,?_,.inr rfl⟩,fun H' e3=>?_⟩
    ·rw[ZbR hm]
     obtain⟨tg,da⟩:=d
     simp only at hr
     subst hr
     unfold unwind
     rw[hd]
     simp only[e1,GStep.after,List.nil_append,Array.append_empty]
    ·rw[e3.2]
     exact back _ h2
  obtain⟨ht,h⟩:=hcol
  have hstep:∀ main w,stepG P main (gor fr cs) w=callDeferred P { fr with defers:=ds } cs none d w:=by
   intro main w
   rw[ZbR hm]
   exact Zfi hd ht
  rcases h with h | ⟨hv,h⟩
  case inr=>
   refine h G fr (fun _=>{ fr with defers:=ds }) cs hcl ⟨fun main cs w w' v es e1=>?_,.inl hv,.inl hv,fun h=>by simp at h,fun h=>by simp at h⟩ fun v H' hu=>back _ hu
   rw[ZbR hm,Zfi hd ht]
   exact(Zau ht e1).2 (.inl ⟨v,rfl⟩)
  refine .sem h ?_
  intro n H0 h0
  cases n with
  | enter f args=>
   refine⟨_,_,fun main w w' es e1=>⟨seen P fr.fn es,?_,.inr rfl⟩,fun H' e3=>e3 G _ cs hcl (show okD { fr with defers:=ds } by unfold okD;rw[hm];trivial) fun v H'' hv=>back _ hv⟩
   rw[hstep]
   exact(Zau ht e1).1 f args rfl
  | value v=>
   refine⟨{ fr with defers:=ds },cs,fun main w w' es e1=>⟨seen P fr.fn es,?_,.inr rfl⟩,fun H' e3=>back _ e3⟩
   rw[hstep]
   exact(Zau ht e1).2 (.inl ⟨v,rfl⟩)
  | skip=>
   refine⟨{ fr with defers:=ds },cs,fun main w w' es e1=>⟨seen P fr.fn es,?_,.inr rfl⟩,fun H' e3=>back _ e3⟩
   rw[hstep]
   exact(Zau ht e1).2 (.inr rfl)
  | _=>exact h0.elim
def TopG (P:Program)(f:FuncId)(fn:Func)(t:Nat)(v:Value)(fr:Frame)(cs:List Frame)(_:Hp):Prop:=
 cs=[]∧fr.mode=.returning∧fr.defers=[]∧(fr.fn=f∧fr.kind=.normal)∧P.funcs[fr.fn]? = some fn∧fn.results=#[.tmp t]∧fr.tmps.getD t undef=v
theorem ZeZ {fn:Func}{t:Nat}(h:fn.results=#[.tmp t])(tmps:Array Value):results fn tmps=pure (tmps.getD t undef):=by
 simp[results,h]
theorem TopG.closed (P:Program)(f:FuncId)(fn:Func)(t:Nat)(v:Value):ZcO (TopG P f fn t v):=fun _ _ _ _ _ h=>h
theorem reach_top {P:Prg}{f:FuncId}{fn:Func}{k t:Nat}{n:Zai}{rs:List NRes}{v0:Value}(h:IsN P f k n rs)(hfn:P.funcs[f]? = some fn)(hres:fn.results=#[.tmp t]){args:List Value}{H:Hp}(hk:args.length=k)
  (hw:n.m P (MFin P rs fun v _=>v=v0) (env0 args) H):Reach P (TopG P f fn t v0) (Frame.enter P f args.toArray .normal) [] H:=by
 obtain⟨fn',L,h1,h2,h3,h4⟩:=h
 obtain rfl:fn'=fn:=Option.some.inj (h1.symm.trans hfn)
 rw[Bool.and_eq_true,Bool.and_eq_true,decide_eq_true_eq]at h4
 obtain⟨body,hb,hn⟩:=Option.bind_eq_some_iff.1 h2
 subst hk
 have hwn:NFn n rs P args (fun v _=>v=v0) H:=by
  unfold NFn
  refine Zai.m_w ?_ hw
  intro e σ H h
  cases e<;>exact h
 obtain⟨⟨hl,hm⟩,hnr⟩:=h4
 have hrel:Rel P L fn'.ntmps (env0 args) H ⟨args.toArray++Array.replicate (fn'.ntmps-args.toArray.size) undef,[]⟩ H:=by
  refine⟨by simp;omega,rfl,fun _=>0,.nil,?_,?_,?_,?_,?_,.nil _ _⟩
  ·exact(Hp.join_nil H).symm
  ·exact Hp.comp_nil H
  ·intro d cs h;simp[env0]at h
  ·intro d d' cs cs' h;simp[env0]at h
  ·intro t v ht
   simp only[env0]at ht
   have hlt:t<args.length:=by
    rcases Nat.lt_or_ge t args.length with h | h
    ·exact h
    ·simp[List.getElem?_eq_none h]at ht
   have hno:L.lookup t=none:=by
    cases hh:L.lookup t with
    | none=>rfl
    | some d=>
     obtain⟨l1,l2,rfl,_⟩:=List.lookup_eq_some_iff.1 hh
     have:=List.all_eq_true.1 hl (t,d) (by simp)
     simp at this
     omega
   unfold RelV
   rw[hno]
   simp[Array.getElem?_append,hlt]
   rw[List.getElem?_eq_getElem hlt]at ht
   simpa using ht
 have htri:Tri P ⟨true,fn'.norace⟩ body (fun e a H=>match e with | .exit _=>False | _=>Unw P fn' a.tmps (fun v H'=>∃ H1 J:Hp,H'=H1.join J∧H1.Comp J∧v=v0) a.defers H) ⟨args.toArray++Array.replicate (fn'.ntmps-args.toArray.size) undef,[]⟩ H:=by
  refine(ZaI (rd:=⟨true,fn'.norace⟩) (fun h=>by rw[h]at hnr;simpa using hnr) hn hwn hrel).mono ?_
  rintro e ⟨at_,ad⟩ Ha ⟨σ,H',r,hq⟩
  cases e with
  | normal=>exact ZgI h3 _ _ _ _ r hq
  | ret=>exact ZgI h3 _ _ _ _ r hq
  | exit id=>exact hq.elim
 have he:Frame.enter P f args.toArray .normal=on (Frame.enter P f args.toArray .normal) ⟨args.toArray++Array.replicate (fn'.ntmps-args.toArray.size) undef,[]⟩ [.code body]:=by
  simp[Frame.enter,on,hfn,hb]
 rw[he]
 have hr:(Frame.enter P f args.toArray .normal).roundOf=none:=rfl
 have last:∀ (fr:Frame) (H:Hp),fr.mode=.returning->fr.defers=[]->fr.fn=f∧fr.kind=.normal->P.funcs[fr.fn]? = some fn'->wpL P (results fn' fr.tmps) (fun v _ H'=>(fun v H'=>∃ H1 J:Hp,H'=H1.join J∧H1.Comp J∧v=v0) v H') false H->Reach P (TopG P f fn' t v0) fr [] H:=by
  intro fr H a1 a2 ak a3 a4
  rw[ZeZ hres,Zac]at a4
  obtain⟨_,_,_,_,hv⟩:=a4
  exact .stop ⟨rfl,a1,a2,ak,a3,hres,hv⟩
 refine htri (TopG P f fn' t v0) _ [] [] (TopG.closed _ _ _ _ _) ⟨by simp[Frame.enter],fun _=>hr,fun h=>by simp only[norace,Frame.enter,hfn,Option.any_some];exact h⟩ ?_
 intro e a H' hq
 cases e with
 | normal=>
  refine .pure (fr':={ on (Frame.enter P f args.toArray .normal) a []with mode:=.returning }) (cs':=[]) (fun main w=>Zky hr) ?_
  exact ZgS (TopG.closed _ _ _ _ _) last _ _ _ rfl rfl ⟨rfl,rfl⟩ hfn hq
 | ret=>
  intro k'
  refine .pure (fr':={ on (Frame.enter P f args.toArray .normal) a (.code .ret :: k') with mode:=.returning }) (cs':=[]) (fun main w=>Zkx hr) ?_
  exact ZgS (TopG.closed _ _ _ _ _) last _ _ _ rfl rfl ⟨rfl,rfl⟩ hfn hq
 | exit id=>exact hq.elim
open Go.Conc (Knows Deaf touchAt QuitsD crowd woken Leavers Past)
def roW (w:World):Hp:=⟨fun b=>(w.heap[b]?).map fun o=>(o,false),[]⟩
theorem ZjX (w:World)(b:Nat):roW w b=(w.heap[b]?).map fun o=>(o,false):=rfl
theorem roW_le (w:World):(roW w).le w:=fun b o p h=>by
 rw[ZjX]at h
 obtain⟨x,hx,he⟩:=Option.map_eq_some_iff.1 h
 simp only[Prod.mk.injEq]at he
 rw[hx,he.1]
structure Kept0 (W W':World):Prop where
 os:Go.ConcM.OsLater W.os W'.os
 tape:W'.tape=W.tape
 out:W'.output=W.output
 size:W.heap.size<=W'.heap.size
 heap:∀ b,b<W.heap.size->W'.heap[b]? = W.heap[b]?
theorem run_top {p:Program}{f:FuncId}{fn:Func}{t:Nat}{v0:Value}{args:Array Value}{W:World}(hin:p.inits.idxOf? f=none)(h:Reach (prP p) (TopG p f fn t v0) (Frame.enter p f args .normal) [] (roW W)) :
  ∃ M last o w' t',runNT p (M+1) (Go.Conc.solo (Go.Conc.G (Frame.enter p f args .normal) []) W) #[]=(.ended o w',t')∧runN p M (Go.Conc.solo (Go.Conc.G (Frame.enter p f args .normal) []) W)=.next last ∧
   step p last=.ended o w'∧Go.Conc.Good p (fun v W'=>v=v0∧Kept0 W W') last o w' t':=by
 have hph:=ZlT (P:=prP p) rfl h
 have ha:Alone p (roW W) #[gor (Frame.enter p f args .normal) []] W #[] (fun _=>0):=by
  refine⟨Go.Conc.leavers_one p _,?_,roW_le W⟩
  exact⟨fun said=>by rintro⟨i,j,_,⟨a,b,ha,_⟩,_⟩;simp[Trace.act?]at ha,fun i a ha=>by simp[touchAt,Trace.act?]at ha,fun i g hg=>by simp[Trace.g?]at hg,rfl,by simp⟩
 obtain⟨k,gs',w',sl',t',q',H',fr',cs',h1,h2,h3,h4,h5⟩:=hph _ W none #[] _ ha rfl
 obtain⟨rfl,g1,g2,⟨g3,g3k⟩,g4,g5,g6⟩:=h5
 have hkeep:∀ w1,Go.Conc.AtRel w' w1->Kept0 W w1:=by
  rintro w1 ⟨d,rfl⟩
  exact⟨h4.out.os,h4.out.tape,h4.out.out,h4.grown,fun b hb=>h4.keep b hb fun o ho=>by
   rw[ZjX]at ho
   obtain⟨x,_,he⟩:=Option.map_eq_some_iff.1 ho
   simp at he⟩
 have hend:Go.Conc.Goes p true Go.Conc.AtRel (fun _ _ _=>False) (Go.Conc.AtEnd p (Zhj H' w'.heap.size) w'.heap.size (fun v W'=>v=v0∧Kept0 W W')) 0 (gor fr' []) w':=by
  intro w1 hw1
  refine⟨rfl,v0,#[],?_,by simp,rfl,hkeep w1 hw1⟩
  have hr:(results fn fr'.tmps).runT p w1 #[]=(.ok v0 w1,#[]):=by rw[ZeZ g5,g6];rfl
  have hin':p.inits.idxOf? fr'.fn=none:=by rw[g3];exact hin
  simp only[gor,stepG,g1,unwind,g2,g4,hr,GStep.after,doReturn,g3k,Array.append_empty,hin']
  simp[seen]
 obtain⟨N,last,o,w2,t2,e1,e2,e3,e4⟩:=Go.Conc.beside_ends (D:=fun _ _ _=>False) (fun _ _ _ h=>h.elim) h2 h3.leavers h3.past hend
 refine⟨k+N,last,o,w2,t2,?_,?_,e3,e4⟩
 ·have:=ZcV h1 e1
  rw[Nat.add_assoc];exact this
 ·have hk1:runN p k (Go.Conc.solo (Go.Conc.G (Frame.enter p f args .normal) []) W)=.next (crowd gs' w' sl'):=by
   rw[<-runNT_fst _ _ _ #[]]
   exact congrArg Prod.fst h1
  rw[runN_add,hk1]
  exact e2
end Go.LL
end
section
open Go Go.LL Go.Conc Go.ConcM
namespace Go.Proofs
section
variable  {H:Type}{enc:TypeId×Value->H}
theorem Zjp {a:Assume}{C:Checked}{os:Os}{f:FuncId}{fn:Func}{s:ChangeSpec}{F:Stop.Interp}{conds:List PathCond}{apart fresh handsOn:Bool}{X:World->Array Value->Prop}
  (hX:∀ (w w':World) (args:Array Value),w.heap=w'.heap->X w args->X w' args)
  (own:ownKnob C.prog.godebug=none) (started:os.Started) (hfn:C.prog.funcs[f]? = some fn)
  (witness:∃ (w:World) (tape:Tape) (i:Input),w.os=os∧(w.forCall tape i).Shaped C.prog∧i.vars=[]∧Input.okWide C.prog (w.forCall tape i) .any w.heap.size f i ∧
   ((s.pre enc C.prog fn conds apart (w.forCall tape i).memory i.args∧X (w.forCall tape i).memory i.args)∧sizedMet enc C.prog fn (OpenSpec.ofChange s) apart (w.forCall tape i).memory i.args)∧a.holds C.prog (lone (Frame.enter C.prog f i.args .normal) [] (w.forCall tape i)))
  (runs:∀ (W:World) (base:Nat) (args:Array Value) (ds gs:List (DataW H)) (before:List MemPlace),
   (∀ (j:Nat) t v,fn.params[j]? = some t->args[j]? = some v->Value.okWide C.prog W .any base t v) ->
   DataW.Whole enc C.prog fn.params.toList s.vars apart W args.toList ds gs before ->
   X W args ->
   ∃ M last o w' t',runNT C.prog (M+1) (solo (G (Frame.enter C.prog f args .normal) []) W) #[]=(.ended o w',t')∧runN C.prog M (solo (G (Frame.enter C.prog f args .normal) []) W)=.next last ∧
    step C.prog last=.ended o w'∧Conc.Good C.prog (fun v W'=>s.post enc C.prog fn apart fresh handsOn false W args v { W' with os:=W.os }∧OsLater W.os W'.os) last o w' t') :
  ReturnsInLeavingWide a C os f .any (fun w args=>(s.pre enc C.prog fn conds apart w args∧X w args)∧sizedMet enc C.prog fn (OpenSpec.ofChange s) apart w args) ((OpenSpec.ofChange s).postWith enc C.prog fn F (outsideKept [.timePasses]) apart fresh handsOn):=by
 refine returnsInLeavingWide_of_good own started witness ?_
 intro w tape i _ _ _ hok hpre hholds
 obtain⟨_,_,_,fn',hfn',_,_,_,_,hval⟩:=hok
 have e:fn'=fn:=Option.some.inj (hfn'.symm.trans hfn)
 subst e
 obtain⟨⟨⟨ds,gs,before,hw,hc⟩,hx⟩,hz⟩:=hpre
 have hw':=DataW.Whole.of_heap (w':=w.forCall tape i) (by rfl) hw
 obtain⟨M,last,o,w',t',h1,h2,h3,h4⟩:=runs (w.forCall tape i) w.heap.size i.args ds gs before hval hw' (hX _ _ _ (by rfl) hx)
 obtain⟨v,e,hp,r1,r2,r3,r4⟩:=h4
 exact⟨M,last,o,w',t',h1,h2,h3,v,e,postWith_blind (postWith_of_post hp.1 hp.2),r1,r2,r3,r4⟩
theorem ZfE {C:Checked}{os:Os}{f:FuncId}{fn:Func}{s:ChangeSpec}{conds:List PathCond}{apart:Bool}{X:World->Array Value->Prop}(w0:World)(args:Array Value)(fuel:Nat)(hos:w0.os=os)
  (hsh:(w0.forCall (fun _ _=>0) ⟨#[],args,[]⟩).Shaped C.prog)
  (hok:Input.okWideB C.prog (w0.forCall (fun _ _=>0) ⟨#[],args,[]⟩) f ⟨#[],args,[]⟩=true)
  (hpre:s.preB enc C.prog fn conds apart (w0.forCall (fun _ _=>0) ⟨#[],args,[]⟩).memory args fuel=true)
  (hsz:s.sizedB enc C.prog fn apart (w0.forCall (fun _ _=>0) ⟨#[],args,[]⟩).memory args fuel=true)
  (hx:X (w0.forCall (fun _ _=>0) ⟨#[],args,[]⟩).memory args) :
  ∃ (w:World) (tape:Tape) (i:Input),w.os=os∧(w.forCall tape i).Shaped C.prog∧i.vars=[]∧Input.okWide C.prog (w.forCall tape i) .any w.heap.size f i ∧
   ((s.pre enc C.prog fn conds apart (w.forCall tape i).memory i.args∧X (w.forCall tape i).memory i.args)∧sizedMet enc C.prog fn (OpenSpec.ofChange s) apart (w.forCall tape i).memory i.args)∧({ calm:=true }:Assume).holds C.prog (lone (Frame.enter C.prog f i.args .normal) [] (w.forCall tape i)):=
 ⟨w0,fun _ _=>0,⟨#[],args,[]⟩,hos,hsh,(Input.okWide_of_okWideB (base:=0) hok).1,(Input.okWide_of_okWideB hok).2,⟨⟨ChangeSpec.pre_of_preB hpre,hx⟩,sizedMet_of_sizedB hsz⟩,by
  simp only[Assume.holds]
  exact⟨by simp,fun _ _ _ _=>rfl,by simp,by simp,by simp⟩⟩
end
theorem tzOwn:ownKnob Tryz.prog.godebug=none:=by kernel_rfl
theorem ZlL:laidOutB Tryz.prog=true:=by kernel_rfl
theorem gChecks:Tryz.prog.globalNamed "ribband/spile.checks" = some 0:=by kernel_rfl
end Go.Proofs
end
section
open Go Go.LL Go.Conc Go.ConcM
namespace Go.Proofs
open YtamdhefhhdgjbaaGreatDoor
theorem tChecks:(Tryz.prog.globals[0]?).map (·.type)=some 178:=by kernel_rfl
theorem wShaped (os:Os)(args:Array Value):((World.doorLaid Tryz.prog 600 os).forCall (fun _ _=>0) ⟨#[],args,[]⟩).Shaped Tryz.prog:=World.shaped_of_RefB (by kernel_rfl) (by kernel_rfl)
theorem doorMet (os:Os)(args:Array Value):laidMetH Tryz.prog [("ribband/spile.checks",Rows.laid_ribband_spile_checks)] ((World.doorLaid Tryz.prog 600 os).forCall (fun _ _=>0) ⟨#[],args,[]⟩).memory:=
 laidMetH_of_parts3 (fuel:=8) (laidMet_of_run' 8 (by kernel_rfl) (by kernel_rfl)) (by kernel_rfl) (by kernel_rfl)
end Go.Proofs
end
section
open Go Go.LL Go.Conc Go.ConcM
namespace Go.Proofs
open YtamdhefhhdgjbaaGreatDoor
section
variable  {H:Type}{enc:TypeId×Value->H}{W:World}{base:Nat}{sp:Nat->Bool}{held:Bool}{fuel:Nat}{cs:List Value}{y:DataW H×List MemPlace}
theorem ZhQ {P:Program}{r:Reach}{b0:Nat}{t:TypeId}{v:Value}{fs:Array Field}(ht:P.underlying t=some (.struct fs))(h:Value.okWide P W r b0 t v):∃ c,v=.agg c:=by
 unfold Value.okWide at h
 rw[ht]at h
 obtain⟨c,rfl,_⟩:=h
 exact⟨c,rfl⟩
theorem Zci {W:World}{a:Addr}{v:Value}(h:W.cell? a=some v):a.spot=none∧∃ o,W.heap[a.block]? = some o∧Obj.at? o a.off=some v:=by
 unfold World.cell? at h
 split at h
 ·rename_i c t f ho
  split at h
  ·simp at h
  ·rename_i hs
   exact⟨by simpa using hs,_,ho,h⟩
 ·simp at h
theorem Zg7 (h:DataW.trod enc Tryz.prog W base sp held fuel 3 cs=some y):∃ n,cs=[vi n]:=by
 obtain⟨n,h,_⟩:=DataW.trod_int Tryz.underlying3 h
 exact⟨n,h⟩
theorem cut2 {cs:List Value}{i:Nat}{v:Value}(h:(cs.drop i).take 1=[v]):cs[i]? = some v:=by
 have:=congrArg (·[0]?) h
 simpa[List.getElem?_take,List.getElem?_drop]using this
theorem ZhV {l m:List Value}(hl:l.length=m.length)(h:∀ i,i<m.length->l[i]? = m[i]?):l=m:=by
 apply List.ext_getElem?
 intro i
 rcases Nat.lt_or_ge i m.length with hi | hi
 ·exact h i hi
 ·rw[List.getElem?_eq_none hi,List.getElem?_eq_none (by omega)]
theorem ZkC:Tryz.prog.cellsOf 3=1:=by kernel_rfl
theorem ZjE:Tryz.prog.cellsOf 49=2:=by kernel_rfl
theorem ZmW:Tryz.prog.cellsOf 51=3:=by kernel_rfl
theorem ZmV:Tryz.prog.cellsOf 59=5:=by kernel_rfl
theorem cells22:Tryz.prog.cellsOf 22=1:=by kernel_rfl
theorem cells23:Tryz.prog.cellsOf 23=1:=by kernel_rfl
theorem cells25:Tryz.prog.cellsOf 25=4:=by kernel_rfl
theorem cells178:Tryz.prog.cellsOf 178=3:=by kernel_rfl
theorem cells177:Tryz.prog.cellsOf 177=1:=by kernel_rfl
theorem ZaR {α β:Type}{xs:List (α×β)}{i:Nat}(h:i<xs.length):∃ y,xs[i]? = some y:=⟨_,List.getElem?_eq_getElem h⟩
theorem Zja (h:DataW.trod enc Tryz.prog W base sp held fuel 49 cs=some y):∃ a b,cs=[vi a,vi b]:=by
 obtain⟨xs,n,rfl,_,hl,hx,hf⟩:=DataW.trod_struct Tryz.underlying49 h
 rw[ZjE]at hl
 obtain⟨y0,h0⟩:=ZaR (xs:=xs) (i:=0) (by rw[hx];decide)
 obtain⟨y1,h1⟩:=ZaR (xs:=xs) (i:=1) (by rw[hx];decide)
 have f0:DataW.trod enc Tryz.prog W base sp held n 3 ((cs.drop 0).take (Tryz.prog.cellsOf 3))=xs[0]?:=hf 0 _ rfl
 have f1:DataW.trod enc Tryz.prog W base sp held n 3 ((cs.drop 1).take (Tryz.prog.cellsOf 3))=xs[1]?:=hf 1 _ rfl
 rw[h0]at f0
 rw[h1]at f1
 obtain⟨a,ha⟩:=Zg7 f0
 obtain⟨b,hb⟩:=Zg7 f1
 rw[ZkC]at ha hb
 have ha:=cut2 ha
 have hb:=cut2 hb
 refine⟨a,b,ZhV hl fun i hi=>?_⟩
 match i,hi with
 | 0,_=>exact ha
 | 1,_=>exact hb
theorem ck_trod (h:DataW.trod enc Tryz.prog W base sp held fuel 51 cs=some y):∃ x:SCk,cs=Enc.enc x:=by
 obtain⟨xs,n,rfl,_,hl,hx,hf⟩:=DataW.trod_struct Tryz.underlying51 h
 rw[ZmW]at hl
 obtain⟨y0,h0⟩:=ZaR (xs:=xs) (i:=0) (by rw[hx];decide)
 obtain⟨y1,h1⟩:=ZaR (xs:=xs) (i:=1) (by rw[hx];decide)
 have f0:DataW.trod enc Tryz.prog W base sp held n 3 ((cs.drop 0).take (Tryz.prog.cellsOf 3))=xs[0]?:=hf 0 _ rfl
 have f1:DataW.trod enc Tryz.prog W base sp held n 49 ((cs.drop 1).take (Tryz.prog.cellsOf 49))=xs[1]?:=hf 1 _ rfl
 rw[h0]at f0
 rw[h1]at f1
 obtain⟨a,ha⟩:=Zg7 f0
 obtain⟨b,c,hb⟩:=Zja f1
 rw[ZkC]at ha
 rw[ZjE]at hb
 have ha:=cut2 ha
 have hb0:=congrArg (·[0]?) hb
 have hb1:=congrArg (·[1]?) hb
 simp[List.getElem?_take,List.getElem?_drop]at hb0 hb1
 refine⟨⟨a,b,c⟩,ZhV hl fun i hi=>?_⟩
 match i,hi with
 | 0,_=>exact ha
 | 1,_=>exact hb0
 | 2,_=>exact hb1
theorem pt_trod (h:DataW.trod enc Tryz.prog W base sp held fuel 59 cs=some y):∃ x:SPt,cs=Enc.enc x:=by
 obtain⟨xs,n,rfl,_,hl,hx,hf⟩:=DataW.trod_struct Tryz.underlying59 h
 rw[ZmV]at hl
 obtain⟨y0,h0⟩:=ZaR (xs:=xs) (i:=0) (by rw[hx];decide)
 obtain⟨y1,h1⟩:=ZaR (xs:=xs) (i:=1) (by rw[hx];decide)
 obtain⟨y2,h2⟩:=ZaR (xs:=xs) (i:=2) (by rw[hx];decide)
 have f0:DataW.trod enc Tryz.prog W base sp held n 49 ((cs.drop 0).take (Tryz.prog.cellsOf 49))=xs[0]?:=hf 0 _ rfl
 have f1:DataW.trod enc Tryz.prog W base sp held n 49 ((cs.drop 2).take (Tryz.prog.cellsOf 49))=xs[1]?:=hf 1 _ rfl
 have f2:DataW.trod enc Tryz.prog W base sp held n 3 ((cs.drop 4).take (Tryz.prog.cellsOf 3))=xs[2]?:=hf 2 _ rfl
 rw[h0]at f0
 rw[h1]at f1
 rw[h2]at f2
 obtain⟨a,b,ha⟩:=Zja f0
 obtain⟨c,d,hb⟩:=Zja f1
 obtain⟨e,hc⟩:=Zg7 f2
 rw[ZjE]at ha hb
 rw[ZkC]at hc
 have hc:=cut2 hc
 have ha0:=congrArg (·[0]?) ha
 have ha1:=congrArg (·[1]?) ha
 have hb0:=congrArg (·[0]?) hb
 have hb1:=congrArg (·[1]?) hb
 simp[List.getElem?_take,List.getElem?_drop]at ha0 ha1 hb0 hb1
 refine⟨⟨a,b,c,d,e⟩,ZhV hl fun i hi=>?_⟩
 match i,hi with
 | 0,_=>exact ha0
 | 1,_=>exact ha1
 | 2,_=>exact hb0
 | 3,_=>exact hb1
 | 4,_=>exact hc
theorem ZlR {α:Type}[Enc α]{t e:TypeId}(ht:Tryz.prog.underlying t=some (.slice e))(hc:Tryz.prog.cellsOf e=Enc.sz α)(hpos:0<Enc.sz α)
  (hel:∀ {n:Nat} {cs:List Value} {y:DataW H×List MemPlace},DataW.trod enc Tryz.prog W base sp held n e cs=some y->∃ x:α,cs=Enc.enc x)
  (h:DataW.trod enc Tryz.prog W base sp held fuel t cs=some y):∃ v,cs=[v]∧∃ l:List α,SlAt (roW W) v l:=by
 rcases DataW.trod_slice ht h with ⟨rfl,_⟩ | ⟨a,len,cap,elems,rest,n,_,rfl,_,_,hl,_,hlen,hE,_⟩
 ·exact⟨_,rfl,[],.nil _⟩
 have hx:∀ i,i<len->∃ x:α,W.cells? base (a.add (i * Enc.sz α)) (Enc.sz α)=some (Enc.enc x):=by
  intro i hi
  obtain⟨y,hy⟩:=ZaR (xs:=elems) (i:=i) (by omega)
  have:=hE i hi
  rw[hy,hc,Option.bind_eq_some_iff]at this
  obtain⟨c,h1,h2⟩:=this
  obtain⟨x,rfl⟩:=hel h2
  exact⟨x,h1⟩
 let l:List α:=List.ofFn fun i:Fin len=>(hx i.1 i.2).choose
 have hll:l.length=len:=by simp[l]
 have hg:∀ i (hi:i<l.length),W.cells? base (a.add (i * Enc.sz α)) (Enc.sz α)=some (Enc.enc l[i]):=by
  intro i hi
  have:=(hx i (by omega)).choose_spec
  simpa[l]using this
 refine⟨_,rfl,l,some a,cap,by rw[hll],fun hne=>⟨a,rfl,?_⟩⟩
 have hcell:∀ i (hi:i<l.length),∀ j,j<Enc.sz α->W.cell? ((a.add (i * Enc.sz α)).add j)=(Enc.enc l[i])[j]?:=fun i hi=>(World.cells?_some (hg i hi)).2.2
 have hpos':0<l.length:=List.length_pos_iff.2 hne
 have hsp:a.spot=none∧∃ o,W.heap[a.block]? = some o:=by
  have h0:=hcell 0 hpos' 0 hpos
  have:((Enc.enc l[0])[0]? : Option Value)=some ((Enc.enc l[0])[0]'(by rw[Enc.len];exact hpos)):=List.getElem?_eq_getElem _
  rw[this]at h0
  obtain⟨s1,o,s2,_⟩:=Zci h0
  have e0:(a.add (0 * Enc.sz α)).add 0=a:=by simp[Addr.add]
  rw[e0]at s1 s2
  exact⟨s1,o,s2⟩
 obtain⟨hs,o,ho⟩:=hsp
 refine⟨hs,o,false,by rw[ZjX,ho];rfl,fun j hj=>?_⟩
 rw[Zcm]at hj
 have hi:j / Enc.sz α<l.length:=(Nat.div_lt_iff_lt_mul hpos).2 hj
 have hm:j % Enc.sz α<Enc.sz α:=Nat.mod_lt _ hpos
 have hjj:j=j / Enc.sz α * Enc.sz α+j % Enc.sz α:=(Nat.div_add_mod' j _).symm
 have hv:(Enc.enc l[j / Enc.sz α])[j % Enc.sz α]? = some ((Enc.enc l[j / Enc.sz α])[j % Enc.sz α]'(by rw[Enc.len];exact hm)):=List.getElem?_eq_getElem _
 have hc2:=hcell _ hi _ hm
 rw[hv]at hc2
 obtain⟨_,o',s2,s3⟩:=Zci hc2
 rw[ZbM,ZbM,ho]at s2
 obtain rfl:=Option.some.inj s2
 rw[Zc3,Zc3,Nat.add_assoc,<-hjj]at s3
 have e9:=Zjz l _ _ hi hm
 rw[<-hjj]at e9
 rw[s3,e9,hv]
theorem bk_trod (h:DataW.trod enc Tryz.prog W base sp held fuel 25 cs=some y):∃ b,BkAt (roW W) (.agg cs.toArray) b:=by
 obtain⟨xs,n,rfl,_,hl,hx,hf⟩:=DataW.trod_struct Tryz.underlying25 h
 rw[cells25]at hl
 obtain⟨y0,h0⟩:=ZaR (xs:=xs) (i:=0) (by rw[hx];decide)
 obtain⟨y1,h1⟩:=ZaR (xs:=xs) (i:=1) (by rw[hx];decide)
 obtain⟨y2,h2⟩:=ZaR (xs:=xs) (i:=2) (by rw[hx];decide)
 obtain⟨y3,h3⟩:=ZaR (xs:=xs) (i:=3) (by rw[hx];decide)
 have f0:DataW.trod enc Tryz.prog W base sp held n 3 ((cs.drop 0).take (Tryz.prog.cellsOf 3))=xs[0]?:=hf 0 _ rfl
 have f1:DataW.trod enc Tryz.prog W base sp held n 3 ((cs.drop 1).take (Tryz.prog.cellsOf 3))=xs[1]?:=hf 1 _ rfl
 have f2:DataW.trod enc Tryz.prog W base sp held n 22 ((cs.drop 2).take (Tryz.prog.cellsOf 22))=xs[2]?:=hf 2 _ rfl
 have f3:DataW.trod enc Tryz.prog W base sp held n 23 ((cs.drop 3).take (Tryz.prog.cellsOf 23))=xs[3]?:=hf 3 _ rfl
 rw[h0]at f0
 rw[h1]at f1
 rw[h2]at f2
 rw[h3]at f3
 obtain⟨a,ha⟩:=Zg7 f0
 obtain⟨b,hb⟩:=Zg7 f1
 obtain⟨pv,hp,pl,hpl⟩:=ZlR (α:=SPt) Tryz.underlying22 ZmV (by decide) (fun h=>pt_trod h) f2
 obtain⟨cv,hc,cl,hcl⟩:=ZlR (α:=SCk) Tryz.underlying23 ZmW (by decide) (fun h=>ck_trod h) f3
 rw[ZkC]at ha hb
 rw[cells22]at hp
 rw[cells23]at hc
 have ha:=cut2 ha
 have hb:=cut2 hb
 have hp:=cut2 hp
 have hc:=cut2 hc
 refine⟨⟨a,b,pl,cl⟩,pv,cv,?_,hpl,hcl⟩
 have:cs=[vi a,vi b,pv,cv]:=ZhV hl fun i hi=>by
  match i,hi with
  | 0,_=>exact ha
  | 1,_=>exact hb
  | 2,_=>exact hp
  | 3,_=>exact hc
 rw[this]
set_option maxRecDepth 100000 in
theorem bk_open {r:Reach}{b0:Nat}{v:Value}{d:DataW H}{ps:List MemPlace}(hval:Value.okWide Tryz.prog W r b0 25 v)(hd:DataW.Trod enc Tryz.prog W base sp held 25 v d ps):∃ b,BkAt (roW W) v b:=by
 obtain⟨fuel,hf⟩:=hd
 obtain⟨c,rfl⟩:=ZhQ Tryz.underlying25 hval
 have:=bk_trod hf
 simpa[Value.cells]using this
end
set_option maxRecDepth 100000 in
theorem ZmH {W:World}(h:laidMetH Tryz.prog [("ribband/spile.checks",Rows.laid_ribband_spile_checks)] W):Za8 (roW W):=by
 obtain⟨g,t,cs,fuel,p,hg,ht,hv,hd⟩:=h.funcs (List.mem_singleton.2 rfl)
 obtain rfl:=Option.some.inj (gChecks.symm.trans hg)
 obtain rfl:=Option.some.inj (tChecks.symm.trans ht)
 obtain⟨xs,n,rfl,hx,hl,hn,hE⟩:=DataW.trod_array Tryz.underlying178 hd
 rw[cells178]at hl
 have e0:=hE 0 (by decide)
 have e1:=hE 1 (by decide)
 have e2:=hE 2 (by decide)
 rw[cells177]at e0 e1 e2
 obtain⟨x0,x1,x2,rfl⟩:∃ a b c,xs=[a,b,c]:=by
  match xs,hn with
  | [a,b,c],_=>exact⟨a,b,c,rfl⟩
 obtain⟨c0,c1,c2,hcs⟩:∃ a b c,cs.toList=[a,b,c]:=by
  match h:cs.toList,hl with
  | [a,b,c],_=>exact⟨a,b,c,rfl⟩
 rw[hcs]at e0 e1 e2
 have hx1:DataW.agg [.held [40,114,105,98,98,97,110,100,47,115,112,105,108,101,46,98,111,111,107,41,46,99,111,109,112,97,115,115],.held [40,114,105,98,98,97,110,100,47,115,112,105,108,101,46,98,111,111,107,41,46,112,111,105,110,116,115],.held [40,114,105,98,98,97,110,100,47,115,112,105,108,101,46,98,111,111,107,41,46,99,104,101,99,107,101,100]]=DataW.agg [x0.1,x1.1,x2.1]:=(Prod.mk.inj hx).1
 simp only[DataW.agg.injEq,List.cons.injEq,and_true]at hx1
 obtain⟨k0,k1,k2⟩:=hx1
 obtain⟨y0,z0⟩:=x0
 obtain⟨y1,z1⟩:=x1
 obtain⟨y2,z2⟩:=x2
 dsimp only at k0 k1 k2
 subst k0 k1 k2
 obtain rfl:=Go.func_of_trod (f0:=232) Tryz.underlying177 (by kernel_rfl) e0
 obtain rfl:=Go.func_of_trod (f0:=233) Tryz.underlying177 (by kernel_rfl) e1
 obtain rfl:=Go.func_of_trod (f0:=234) Tryz.underlying177 (by kernel_rfl) e2
 have hcs':cs=#[vf 232,vf 233,vf 234]:=by rw[<-Array.toArray_toList (xs:=cs),hcs]
 subst hcs'
 have h0:=World.var?_cell hg hv
 obtain⟨_,o,ho,_⟩:=Zci (h0 0)
 refine⟨rfl,o,false,by rw[ZjX];rw[ho];rfl,fun j hj=>?_⟩
 match j,hj with
 | 0,_=>obtain⟨_,o',ho',hc⟩:=Zci (h0 0);rw[ho]at ho';obtain rfl:=Option.some.inj ho';exact hc
 | 1,_=>obtain⟨_,o',ho',hc⟩:=Zci (h0 1);rw[ho]at ho';obtain rfl:=Option.some.inj ho';exact hc
 | 2,_=>obtain⟨_,o',ho',hc⟩:=Zci (h0 2);rw[ho]at ho';obtain rfl:=Option.some.inj ho';exact hc
end Go.Proofs
end
section
open Go Go.LL Go.Conc Go.ConcM
namespace Go.Proofs
open YtamdhefhhdgjbaaGreatDoor
open Go.ChangeShapes Go.WideShapes Go.ChangeAt Go.RowKit
theorem ZmC (Lk:Looks){p:Pinned}{s:OpenSpec}{c:OpenClaim}(kinds:List LaidKind)(tests:Bool)(har:Bool×String)(lk:Bool)
  (hc:c.holds p s) (hw:c.wfByText s=true) (htie:c.laidByTextAt Lk p kinds tests)
  (hst:c.start=.entering) (hnb:c.noBlocks=false∧c.again=false) (hm:p.checked.prog.mainIs=some (har.1,har.2.toList)) (hn:(!har.1 && har.2.isEmpty && !lk)=false)
  (hl:∀ f fn,p.checked.prog.funcNamed c.func=some f->p.checked.prog.funcs[f]? = some fn->lk=p.checked.prog.looks []∧∀ (j:Nat) t,fn.params[j]? = some t->p.checked.prog.wantsStandIn t=false)
  (hg:true=c.goesBy p.checked.prog) :
  Claim7.holds p (.plain s) { stood:={ row:=c,standIns:=[],harness:=har,looks:=lk },kinds:=[],alts:=[],goes:=true,laidByText:=true,laidKinds:=kinds,laidTests:=tests,laidLooks:=Lk }:=by
 have h6:∀ r:OpenClaim,Claim7.isSixth { stood:={ row:=r,standIns:=[],harness:=har,looks:=lk },kinds:=[] }=false:=fun r=>by simpa[Claim7.isSixth]using hn
 refine⟨Claim7.tied_new_at Lk kinds tests (Claim7.new_of_sixth hc har lk hst hnb hm (h6 c) hl) hw,fun D hD=>?_,htie,(fun h=>by cases h),hg⟩
 simp at hD
section
variable  {H:Type}{enc:TypeId×Value->H}
theorem Zei {P:Program}(hl:laidOutB P=true){W W':World}(hb:Below W.heap.size W W'):∀ {ts:List TypeId} {vs:List Value} {ds:List (DataW H)} {ps:List MemPlace},(∀ t∈ts,P.readableRec t=true∧t<P.types.size) ->
  DataW.TrodAll enc P W 0 (fun _=>true) true ts vs ds ps->(∀ x∈ps,x.block<W.heap.size)->DataW.TrodAll enc P W' 0 (fun b=>decide (b<W.heap.size)) true ts vs ds ps
 | [],[],[],_,_,h,_=>h
 | t :: ts,v :: vs,d :: ds,ps,hr,h,hlt=>by
  obtain⟨p,q,h1,h2,rfl⟩:=h
  have ht:=hr t (by simp)
  exact⟨p,q,hb.trod hl ht.1 ht.2 h1 (fun x hx=>hlt x (by simp[hx])),Zei hl hb (fun t ht=>hr t (by simp[ht])) h2 (fun x hx=>hlt x (by simp[hx])),rfl⟩
 | [],_ :: _,_,_,_,h,_=>by simp[DataW.TrodAll]at h
 | [],[],_ :: _,_,_,h,_=>by simp[DataW.TrodAll]at h
 | _ :: _,[],_,_,_,h,_=>by simp[DataW.TrodAll]at h
 | _ :: _,_ :: _,[],_,_,h,_=>by simp[DataW.TrodAll]at h
theorem ZfH {P:Program}{W:World}{base:Nat}{sp:Nat->Bool}{held:Bool}:∀ {ts:List TypeId} {vs:List Value} {ds:List (DataW H)} {ps:List MemPlace},DataW.TrodAll enc P W base sp held ts vs ds ps->ds.length=ts.length
 | [],[],[],_,_=>rfl
 | t :: ts,v :: vs,d :: ds,ps,h=>by
  obtain⟨p,q,h1,h2,rfl⟩:=h
  simp[ZfH h2]
 | [],_ :: _,_,_,h=>by simp[DataW.TrodAll]at h
 | [],[],_ :: _,_,h=>by simp[DataW.TrodAll]at h
 | _ :: _,[],_,_,h=>by simp[DataW.TrodAll]at h
 | _ :: _,_ :: _,[],_,h=>by simp[DataW.TrodAll]at h
set_option maxRecDepth 100000 in
theorem law_lifted {f:FuncId}{fn:Func}{t:Nat}{s:ChangeSpec}(os:Os)(started:os.Started)(F:Stop.Interp)(hvars:s.vars=[])
  (hfn:Tryz.prog.funcs[f]? = some fn) (hres:fn.results=#[.tmp t]) (hrt:fn.resultTypes=#[4]) (hin:Tryz.prog.inits.idxOf? f=none)
  (hs:∀ ds:List (DataW H),ds.length=fn.params.toList.length->s.fn H ds={ results:=[.lit (.bool true)],args:=ds })
  (hpar:∀ t∈fn.params.toList,Tryz.prog.readableRec t=true∧t<Tryz.prog.types.size)
  (hwalk:∀ (W:World) (base:Nat) (args:Array Value) (ds:List (DataW H)) (p:List MemPlace),(∀ (j:Nat) t v,fn.params[j]? = some t->args[j]? = some v->Value.okWide Tryz.prog W .any base t v) ->
   DataW.TrodAll enc Tryz.prog W 0 (fun _=>true) true fn.params.toList args.toList ds p->Za8 (roW W)->LL.Reach PP (TopG Tryz.prog f fn t (vb true)) (Frame.enter Tryz.prog f args .normal) [] (roW W))
  (args0:Array Value)
  (hok:Input.okWideB Tryz.prog ((World.doorLaid Tryz.prog 600 os).forCall (fun _ _=>0) ⟨#[],args0,[]⟩) f ⟨#[],args0,[]⟩=true)
  (hpre:s.preB enc Tryz.prog fn [] false ((World.doorLaid Tryz.prog 600 os).forCall (fun _ _=>0) ⟨#[],args0,[]⟩).memory args0 8=true)
  (hsz:s.sizedB enc Tryz.prog fn false ((World.doorLaid Tryz.prog 600 os).forCall (fun _ _=>0) ⟨#[],args0,[]⟩).memory args0 8=true) :
  ReturnsInLeavingWide { calm:=true } Tryz.checked os f .any (fun w args=>(s.pre enc Tryz.prog fn [] false w args∧laidMetH Tryz.prog [("ribband/spile.checks",Rows.laid_ribband_spile_checks)] w)∧sizedMet enc Tryz.prog fn (OpenSpec.ofChange s) false w args)
   ((OpenSpec.ofChange s).postWith enc Tryz.prog fn F (outsideKept [.timePasses]) false true false):=by
 refine Zjp (C:=Tryz.checked) (X:=fun w _=>laidMetH Tryz.prog [("ribband/spile.checks",Rows.laid_ribband_spile_checks)] w) (fun _ _ _ hh h=>h.of_heap hh) tzOwn started hfn
  (ZfE (enc:=enc) (C:=Tryz.checked) (os:=os) (X:=fun w _=>laidMetH Tryz.prog [("ribband/spile.checks",Rows.laid_ribband_spile_checks)] w) (World.doorLaid Tryz.prog 600 os) args0 8 rfl (wShaped os args0) hok hpre hsz (doorMet os args0)) ?_
 intro W base args ds gs before hval0 hW0 hL
 have hW:DataW.Whole enc Tryz.prog fn.params.toList s.vars false W args.toList ds gs before:=hW0
 have hval:∀ (j:Nat) t v,fn.params[j]? = some t->args[j]? = some v->Value.okWide Tryz.prog W .any base t v:=hval0
 have hW':=hW
 obtain⟨p,q,hA,hV,rfl,_,_⟩:=hW
 rw[hvars]at hV
 obtain⟨rfl,rfl⟩:=trodVars_none hV
 obtain⟨M,last,o,w',t',r1,r2,r3,v,e,hp,g1,g2,g3,g4⟩:=run_top hin (hwalk W base args ds p hval hA (ZmH hL))
 refine⟨M,last,o,w',t',r1,r2,r3,v,e,⟨?_,hp.2.os⟩,g1,g2,g3,g4⟩
 obtain⟨rfl,hk⟩:=hp
 have hbel:Below W.heap.size W { w' with os:=W.os }:=⟨rfl,hk.tape,hk.out,hk.size,hk.heap⟩
 have hlt:∀ x∈p++[],x.block<W.heap.size:=fun x hx=>hW'.lt x hx
 rw[List.append_nil]at hlt
 have hse:=hs ds (ZfH hA)
 have hall:=Zei ZlL hbel hpar hA hlt
 refine⟨ds,[],p++[],[],p,[],hW',?_,?_,?_,hbel.frame _,fun h=>by cases h⟩
 ·rw[List.append_nil,hse,hrt]
  exact trodAll_mk1 (shut_bool Tryz.underlying4 _)
 ·rw[List.append_nil,hse]
  exact hall
 ·rw[hvars,List.append_nil,hse]
  rfl
end
end Go.Proofs
end
section
open Go Go.LL
namespace Go.Proofs
def fitB (b:Bk):Bool:=decide (b.pts.length<=20) && decide (b.cks.length<=20) && decide (snag b=0)
structure U16 where
 n:Int
 lo:0<=n
 hi:n<65536
instance:Enc U16:=⟨1,fun u=>[.int .u16 u.n],fun _=>rfl⟩
def Zgj (l:List U16)(i:Int):Int:=if h:0<=i∧i.toNat<l.length then l[i.toNat].n else 0
section
variable  {P:Prg}[Tz P][Loud P]{H:Hp}
set_option maxHeartbeats 4000000
set_option maxRecDepth 20000
theorem Fit_ok {bv:Value}{b:Bk}(hb:BkAt H bv b):LL.Zag P 48 #[bv] H fun v H'=>H=H'∧v=vb (fitB b):=by
 have hs:∀ g,P.still g=false:=Loud.loud
 have hb0:=hb
 obtain⟨pv,cv,rfl,hp,hc⟩:=hb
 refine IsN.m (isn c48) (args:=[.agg #[vi b.op,vi b.sl,pv,cv]]) rfl ?_
 unfold n48
 refine wkT ?_
 refine Zab (vs:=[.agg #[vi b.op,vi b.sl,pv,cv]]) rfl (Great_ok hb0) ?_
 rintro v _ ⟨rfl,rfl⟩
 refine wkT ?_
 refine wiT (fun h1=>?_) (fun h1=>?_)
 ·refine wkT ?_
  simp only[Bool.not_eq_true',Bool.or_eq_false_iff,decide_eq_false_iff_not]at h1
  refine Zab (vs:=[.agg #[vi b.op,vi b.sl,pv,cv]]) rfl (Zic hb0 (by omega) (by omega)) ?_
  rintro v _ ⟨rfl,rfl⟩
  refine wkT ?_
  refine⟨rfl,?_⟩
  have e:∀ z:Int,(z == 0)=decide (z=0):=fun z=>by rw[Bool.eq_iff_iff];simp
  have a1:b.pts.length<=20:=by omega
  have a2:b.cks.length<=20:=by omega
  simp[Zbe,fitB,h1,a1,a2,e]
 ·refine wkT ?_
  refine⟨rfl,?_⟩
  simp only[Bool.not_eq_false',Bool.not_eq_true,Bool.not_eq_false,Bool.or_eq_true,decide_eq_true_eq]at h1
  have:fitB b=false:=by
   rw[Bool.eq_false_iff]
   intro h
   simp only[fitB,Bool.and_eq_true,decide_eq_true_eq]at h
   omega
  rw[this]
  rfl
theorem Choice_ok {lv:Value}{l:List U16}{i:Int}(hl:SlAt H lv l):LL.Zag P 58 #[lv,vi i] H fun v H'=>H=H'∧v=vi (Zgj l i):=by
 have hs:∀ g,P.still g=false:=Loud.loud
 have hl0:=hl
 obtain⟨A,c,rfl,hA⟩:=hl
 refine IsN.m (isn c58) (args:=[_,vi i]) rfl ?_
 unfold n58
 refine wkT ?_
 refine wiT (fun h1=>?_) (fun h1=>?_)
 ·refine wkT ?_
  refine wiT (fun h2=>?_) (fun h2=>?_)
  ·refine wkT ?_
   obtain⟨k,rfl⟩:=Int.eq_ofNat_of_zero_le h1
   have hk:k<l.length:=by omega
   refine ZaE hl0 rfl rfl rfl hk fun a ha=>?_
   refine wkT ?_
   refine Zaf (hs _) rfl ha ?_
   refine wkT ?_
   refine Zb3 (und Tryz.underlying168) (und Tryz.underlying3) rfl ?_
   refine wkT ?_
   have hv:Zgj l (k:Int)=l[k].n:=by simp[Zgj,hk]
   rw[hv]
   refine⟨rfl,?_⟩
   have:=l[k].lo
   have:=l[k].hi
   rw[ZbO ⟨by omega,by omega⟩]
   rfl
  ·refine wkT ?_
   refine⟨rfl,?_⟩
   rw[Zgj,dif_neg (by omega)]
   rfl
 ·refine wkT ?_
  refine⟨rfl,?_⟩
  rw[Zgj,dif_neg (by omega)]
  rfl
end
end Go.Proofs
end
section

end
