import Derived.Test.YthmnpenamnoniaaGreatDoorP03
set_option linter.all false
section
namespace Go.LL
def okD (c:Frame):Prop:=match c.mode with
 | .panicking ({ recovered:=true,.. } :: _)=>False
 | _=>True
def Zl7:CallKind->Frame->Prop
 | .normal,_=>True
 | .deferred,c=>okD c
 | _,_=>False
def ZkN (kd:CallKind)(c:Frame)(v:Value):Frame:=match kd with
 | .normal=>c.finish v
 | _=>c
def ZbE (P:Prg)(kd:CallKind)(f:FuncId)(args:Array Value)(H:Hp)(Post:Value->Hp->Prop):Prop:=
 ∀ (G:Frame->List Frame->Hp->Prop) (c:Frame) (cs:List Frame),Zdq G->Zl7 kd c->(∀ v H',Post v H'->Reach P G (ZkN kd c v) cs H')->Reach P G (Frame.enter P f args kd) (c :: cs) H
theorem ZbE.mono {P:Prg}{kd:CallKind}{f:FuncId}{args:Array Value}{H:Hp}{Post Post':Value->Hp->Prop}(h:ZbE P kd f args H Post)(hp:∀ v H,Post v H->Post' v H):ZbE P kd f args H Post':=
 fun G c cs hc ho hG=>h G c cs hc ho fun v H' hv=>hG v H' (hp _ _ hv)
theorem ZbE.calls {P:Prg}{f:FuncId}{args:Array Value}{H:Hp}{Post:Value->Hp->Prop}(h:ZbE P .normal f args H Post):Zag P f args H Post:=fun G c cs hc hG=>h G c cs hc trivial hG
def Za4:Target->Bool
 | .collected _ | .nil=>false
 | _=>true
def UnwN (P:Prg)(K:Hp->Prop):Next->Hp->Prop
 | .enter f args,H=>ZbE P .deferred f args H fun _ H'=>K H'
 | .value _,H=>K H
 | .skip,H=>K H
 | _,_=>False
def Unw (P:Prg)(fn:Func)(tmps:Array Value)(Post:Value->Hp->Prop):List Deferred->Hp->Prop
 | [],H=>wpL P (results fn tmps) (fun v _ H'=>Post v H') false H
 | d :: ds,H=>match d.target with
  | .collected r=>P.still H.gh=false∧H r=some (.deferred (some []),true)∧Unw P fn tmps Post ds (H.ins r (.deferred none))
  | _=>Za4 d.target=true∧(wpL P (invoke d.target d.args) (fun n _ H'=>UnwN P (Unw P fn tmps Post ds) n H') false H ∨
    (Vals P.toProgram (invoke d.target d.args)∧ShOp P (invoke d.target d.args) false false H fun _ H'=>Unw P fn tmps Post ds H'))
theorem Zjy {P:Program}{main:Bool}{fr c:Frame}{cs:List Frame}{kd:CallKind}(hk:fr.kind=kd)(ho:Zl7 kd c)(v:Value)(w:World):doReturn P main fr (c :: cs) none v w=.go (gor (ZkN kd c v) cs) w:=by
 unfold doReturn
 cases kd<;>simp only[Zl7]at ho<;>simp only[hk,ZkN]
 unfold okD at ho
 congr 1
 split
 ·rename_i h;rw[h]at ho;exact ho.elim
 ·rfl
theorem ZjK {P:Program}{main:Bool}{fr:Frame}{cs:List Frame}{d:Deferred}{ds:List Deferred}{w:World}(hd:fr.defers=d :: ds)(ht:Za4 d.target=true):unwind P main fr cs none w=callDeferred P { fr with defers:=ds } cs none d w:=by
 unfold unwind
 rw[hd]
 split
 ·rename_i h
  simp only[List.cons.injEq]at h
  obtain⟨rfl,rfl⟩:=h
  simp[Za4]at ht
 ·rename_i h
  simp only[List.cons.injEq]at h
  obtain⟨rfl,rfl⟩:=h
  rfl
 ·rename_i h;simp at h
theorem ZeY {P:Program}{main:Bool}{fr:Frame}{cs:List Frame}{w:World}(hm:fr.mode=.returning):stepG P main (gor fr cs) w=unwind P main fr cs none w:=by
 obtain⟨fn,tmps,todo,defers,mode,kind,roundOf⟩:=fr
 simp only at hm
 subst hm
 rfl
theorem ZaT {P:Program}{fr:Frame}{cs:List Frame}{d:Deferred}{w w':World}{n:Next}{es:Array Event}(ht:Za4 d.target=true)(e1:(invoke d.target d.args).runT P w #[]=(.ok n w',es)) :
  (∀ f args,n=.enter f args->callDeferred P fr cs none d w=.go (gor (Frame.enter P f args .deferred) (fr :: cs)) w' (seen P fr.fn es)) ∧
  ((∃ v,n=.value v)∨n=.skip->callDeferred P fr cs none d w=.go (gor fr cs) w' (seen P fr.fn es)):=by
 obtain⟨target,dargs⟩:=d
 cases target with
 | nil=>simp[Za4]at ht
 | collected r=>simp[Za4]at ht
 | _=>
  refine⟨?_,?_⟩
  ·rintro f args rfl
   unfold callDeferred
   simp only[e1,Bool.false_and,Bool.false_eq_true,if_false,GStep.after,Array.append_empty]
  ·rintro(⟨v,rfl⟩ | rfl)<;>(unfold callDeferred;simp only[e1,Bool.false_and,Bool.false_eq_true,if_false,GStep.after,Array.append_empty])
theorem Zig {P:Prg}{G:Frame->List Frame->Hp->Prop}{c:Frame}{cs:List Frame}{fn:Func}{Post:Value->Hp->Prop}{kd:CallKind}(hcl:Zdq G)(ho:Zl7 kd c)(hG:∀ v H',Post v H'->Reach P G (ZkN kd c v) cs H') :
  ∀ (ds:List Deferred) (fr:Frame) (H:Hp),fr.mode=.returning->fr.defers=ds->fr.kind=kd->P.funcs[fr.fn]? = some fn->Unw P fn fr.tmps Post ds H->Reach P G fr (c :: cs) H:=by
 intro ds
 induction ds with
 | nil=>
  intro fr H hm hd hk hf h
  refine .sem h ?_
  intro v _ _
  refine⟨ZkN kd c v,cs,fun main w w' es e1=>⟨seen P fr.fn es,?_,.inr rfl⟩,fun H' e3=>hG _ _ e3⟩
  simp only[gor,stepG,hm,unwind,hd,hf,e1,Zjy hk ho,GStep.after,Array.append_empty]
 | cons d ds ih=>
  intro fr H hm hd hk hf h
  have back:∀ H',Unw P fn fr.tmps Post ds H'->Reach P G { fr with defers:=ds } (c :: cs) H':=fun H' hu=>ih { fr with defers:=ds } H' hm rfl hk hf hu
  have hcol:(∃ r,d.target=.collected r)∨(Za4 d.target=true∧(wpL P (invoke d.target d.args) (fun n _ H'=>UnwN P (Unw P fn fr.tmps Post ds) n H') false H ∨
    (Vals P.toProgram (invoke d.target d.args)∧ShOp P (invoke d.target d.args) false false H fun _ H'=>Unw P fn fr.tmps Post ds H'))):=by
   simp only[Unw]at h
   split at h
   ·exact .inl ⟨_,‹_›⟩
   ·exact .inr h
  rcases hcol with ⟨r,hr⟩ | hcol
  ·simp only[Unw,hr]at h
   obtain⟨hst,h1,h2⟩:=h
   refine .sem (s:=Instr.takeDeferred r) (Q:=fun v _ H'=>v=[]∧H'=H.ins r (.deferred none)) ?_ ?_
   ·simp only[Instr.takeDeferred,Zaa,getObj,setObj]
    exact⟨_,_,⟨hst,h1⟩,rfl,rfl,_,⟨hst,h1⟩,rfl,rfl,rfl,rfl,rfl⟩
   ·rintro v H0 ⟨rfl,_⟩
    refine⟨{ fr with defers:=ds },c :: cs,fun main w w' es e1=>⟨seen P fr.fn es,?_,.inr rfl⟩,fun H' e3=>?_⟩
    ·rw[ZeY hm]
     obtain⟨tg,da⟩:=d
     simp only at hr
     subst hr
     unfold unwind
     rw[hd]
     simp only[e1,GStep.after,List.nil_append,Array.append_empty]
    ·rw[e3.2]
     exact back _ h2
  obtain⟨ht,h⟩:=hcol
  have hstep0:∀ main cs w,stepG P main (gor fr cs) w=callDeferred P { fr with defers:=ds } cs none d w:=by
   intro main cs w
   rw[ZeY hm]
   exact ZjK hd ht
  have hstep:∀ main w,stepG P main (gor fr (c :: cs)) w=callDeferred P { fr with defers:=ds } (c :: cs) none d w:=fun main w=>hstep0 main _ w
  rcases h with h | ⟨hv,h⟩
  case inr=>
   refine h G fr (fun _=>{ fr with defers:=ds }) (c :: cs) hcl ⟨fun main cs w w' v es e1=>?_,.inl hv,.inl hv,fun h=>by simp at h,fun h=>by simp at h⟩ fun v H' hu=>back _ hu
   rw[hstep0]
   exact(ZaT ht e1).2 (.inl ⟨v,rfl⟩)
  refine .sem h ?_
  intro n H0 h0
  cases n with
  | enter f args=>
   refine⟨_,_,fun main w w' es e1=>⟨seen P fr.fn es,?_,.inr rfl⟩,fun H' e3=>e3 G _ (c :: cs) hcl (show okD { fr with defers:=ds } by unfold okD;rw[hm];trivial) fun v H'' hv=>back _ hv⟩
   rw[hstep]
   exact(ZaT ht e1).1 f args rfl
  | value v=>
   refine⟨{ fr with defers:=ds },c :: cs,fun main w w' es e1=>⟨seen P fr.fn es,?_,.inr rfl⟩,fun H' e3=>back _ e3⟩
   rw[hstep]
   exact(ZaT ht e1).2 (.inl ⟨v,rfl⟩)
  | skip=>
   refine⟨{ fr with defers:=ds },c :: cs,fun main w w' es e1=>⟨seen P fr.fn es,?_,.inr rfl⟩,fun H' e3=>back _ e3⟩
   rw[hstep]
   exact(ZaT ht e1).2 (.inr rfl)
  | _=>exact h0.elim
theorem ZbE.of {P:Prg}{kd:CallKind}{f:FuncId}{fn:Func}{body:Code}{args:Array Value}{H:Hp}{Post:Value->Hp->Prop}(hkd:kd=.normal∨kd=.deferred)(hf:P.funcs[f]? = some fn)(hb:fn.body=some body){tmps:Array Value}(ht:args++Array.replicate (fn.ntmps-args.size) undef=tmps)
  (h:Tri P ⟨true,fn.norace⟩ body (fun e a H=>match e with | .exit _=>False | _=>Unw P fn a.tmps Post a.defers H) ⟨tmps,[]⟩ H):ZbE P kd f args H Post:=by
 intro G c cs hcl ho hG
 have he:Frame.enter P f args kd=on (Frame.enter P f args kd) ⟨tmps,[]⟩ [.code body]:=by
  simp[Frame.enter,on,hf,hb,ht]
 rw[he]
 have hr:(Frame.enter P f args kd).roundOf=none:=rfl
 refine h G _ [] (c :: cs) hcl ⟨by rcases hkd with rfl | rfl<;>simp[Frame.enter],fun _=>hr,fun h=>by simp only[norace,Frame.enter,hf,Option.any_some];exact h⟩ ?_
 intro e a H' hq
 cases e with
 | normal=>
  refine .pure (fr':={ on (Frame.enter P f args kd) a []with mode:=.returning }) (cs':=c :: cs) (fun main w=>exec_end hr) ?_
  exact Zig hcl ho hG _ _ _ rfl rfl rfl hf hq
 | ret=>
  intro k'
  refine .pure (fr':={ on (Frame.enter P f args kd) a (.code .ret :: k') with mode:=.returning }) (cs':=c :: cs) (fun main w=>exec_ret hr) ?_
  exact Zig hcl ho hG _ _ _ rfl rfl rfl hf hq
 | exit id=>exact hq.elim
theorem ZbE.frame {P:Prg}{kd:CallKind}{f:FuncId}{args:Array Value}{H F:Hp}{Post:Value->Hp->Prop}(h:ZbE P kd f args H Post)(hc:H.Comp F) :
  ZbE P kd f args (H.join F) (fun v HF=>∃ H',HF=H'.join F∧H'.Comp F∧Post v H'):=by
 intro G c cs hcl ho hG
 have h0:=h (fun fr cs' H'=>cs'=cs∧∃ v H1 J,fr=ZkN kd c v∧H'=H1.join J∧H1.Comp J∧Post v H1) c cs ?_ ho ?_
 ·refine(h0.frame hc).bind ?_
  rintro fr cs' HF ⟨H',rfl,hc',rfl,v,H1,J,rfl,rfl,hj,hp⟩
  have c1:H1.Comp F:=hc'.of_join_left
  have c2:J.Comp F:=Hp.Comp.of_join_right hj hc'
  rw[Hp.join_swap c2.symm]
  exact(hG v _ ⟨H1,rfl,c1,hp⟩).up hcl (Hp.Comp.join_l hj c2.symm)
 ·rintro fr cs' H' J hJ ⟨rfl,v,H1,J1,rfl,rfl,hj,hp⟩
  exact⟨rfl,v,H1,J1.join J,rfl,Hp.join_assoc _ _ _,hj.join_r hJ.of_join_left,hp⟩
 ·intro v H' hp
  exact .stop ⟨rfl,v,H',.nil,rfl,(Hp.join_nil H').symm,Hp.comp_nil H',hp⟩
theorem Tri.frame {P:Prg}{rd:Rd}{c:Code}{Q:Ex->Act->Hp->Prop}{a:Act}{H F:Hp}(h:Tri P rd c Q a H)(hc:H.Comp F) :
  Tri P rd c (fun e a' HF=>∃ H',HF=H'.join F∧H'.Comp F∧Q e a' H') a (H.join F):=by
 intro G b k cs hcl hb hG
 have h0:=h (fun fr cs' H'=>∃ H1 J:Hp,H'=H1.join J∧H1.Comp J∧∀ HF:Hp,(∃ X:Hp,HF=(H1.join J).join X∧(H1.join J).Comp X∧F=X)->Reach P G fr cs' HF) b k cs ?_ hb ?_
 ·refine(h0.frame hc).bind ?_
  rintro fr cs' HF ⟨H',rfl,hc',H1,J,rfl,hj,hp⟩
  exact hp _ ⟨F,rfl,hc',rfl⟩
 ·rintro fr cs' H' J hJ ⟨H1,J1,rfl,hj,hp⟩
  refine⟨H1,J1.join J,Hp.join_assoc _ _ _,hj.join_r hJ.of_join_left,?_⟩
  rintro HF ⟨X,rfl,hx,hX⟩
  subst hX
  have hx1:((H1.join J1).join J).Comp F:=by rw[Hp.join_assoc];exact hx
  have c2:J.Comp F:=Hp.Comp.of_join_right hJ hx1
  have:=(hp _ ⟨F,rfl,hx1.of_join_left,rfl⟩).up hcl (J:=J) (Hp.Comp.join_l hJ c2.symm)
  rw[<-Hp.join_assoc,Hp.join_swap c2.symm]
  exact this
 ·intro e a' H' hq
  have hstop:∀ fr,(∀ HF,HF=H'.join F∧H'.Comp F->Reach P G fr cs HF)->Reach P (fun fr cs' H'=>∃ H1 J:Hp,H'=H1.join J∧H1.Comp J∧∀ HF:Hp,(∃ X:Hp,HF=(H1.join J).join X∧(H1.join J).Comp X∧F=X)->Reach P G fr cs' HF) fr cs H':=by
   intro fr hfr
   refine .stop ⟨H',.nil,(Hp.join_nil H').symm,Hp.comp_nil H',?_⟩
   rintro HF ⟨X,rfl,hx,hX⟩
   subst hX
   rw[Hp.join_nil]at hx ⊢
   exact hfr _ ⟨rfl,hx⟩
  cases e with
  | normal=>exact hstop _ fun HF ⟨e,hx⟩=>hG .normal a' HF ⟨H',e,hx,hq⟩
  | ret=>exact fun k'=>hstop _ fun HF ⟨e,hx⟩=>hG .ret a' HF ⟨H',e,hx,hq⟩ k'
  | exit id=>
   exact⟨fun k' hk=>hstop _ fun HF ⟨e,hx⟩=>(hG (.exit id) a' HF ⟨H',e,hx,hq⟩).1 k' hk,fun hk k' hk'=>hstop _ fun HF ⟨e,hx⟩=>(hG (.exit id) a' HF ⟨H',e,hx,hq⟩).2 hk k' hk'⟩
end Go.LL
end
section
namespace Go.LL
def Up (A:Hp->Prop):Prop:=∀ H J,H.Comp J->A H->A (H.join J)
def Zlv (P:Prg)(Post:Value->Hp->Prop):Next->Hp->Prop
 | .value v,H=>Post v H
 | .skip,H=>Post undef H
 | .enter f args,H=>Zag P f args H Post
 | .round l f tmps as bd,H=>ZdM P l f tmps as bd H Post
 | _,_=>False
theorem Zlv.mono {P:Prg}{Post Post':Value->Hp->Prop}(hp:∀ v H,Post v H->Post' v H):∀ {n:Next} {H:Hp},Zlv P Post n H->Zlv P Post' n H:=by
 intro n H h
 cases n with
 | value v=>exact hp _ _ h
 | skip=>exact hp _ _ h
 | enter f args=>exact Zag.mono h hp
 | round l f tmps as bd=>exact ZdM.mono h hp
 | _=>exact h.elim
def ZiT (fv:Value)(args:Array Value):Sem Next:=do let d <-Deferred.ofValue fv args;invoke d.target d.args
def CallV (P:Prg)(fv:Value)(args:Array Value)(H:Hp)(Post:Value->Hp->Prop):Prop:=
 wpL P (ZiT fv args) (fun n g H'=>g=true∨Zlv P Post n H') false H
theorem CallV.mono {P:Prg}{fv:Value}{args:Array Value}{H:Hp}{Post Post':Value->Hp->Prop}(h:CallV P fv args H Post)(hp:∀ v H,Post v H->Post' v H):CallV P fv args H Post':=
 Za2 (fun n g H h=>h.imp id (Zlv.mono hp)) h
theorem Zlv.frame {P:Prg}{Post:Value->Hp->Prop}{F:Hp}:∀ {n:Next} {H:Hp},Zlv P Post n H->H.Comp F->Zlv P (fun v HF=>∃ H',HF=H'.join F∧H'.Comp F∧Post v H') n (H.join F):=by
 intro n H h hc
 cases n with
 | value v=>exact⟨_,rfl,hc,h⟩
 | skip=>exact⟨_,rfl,hc,h⟩
 | enter f args=>exact Zag.frame h hc
 | round l f tmps as bd=>exact ZdM.frame h hc
 | _=>exact h.elim
theorem CallV.frame {P:Prg}{fv:Value}{args:Array Value}{H F:Hp}{Post:Value->Hp->Prop}(h:CallV P fv args H Post)(hc:H.Comp F) :
  CallV P fv args (H.join F) (fun v HF=>∃ H',HF=H'.join F∧H'.Comp F∧Post v H'):=
 Za2 (fun n g HF ⟨H',e,hc',hn⟩=>by rw[e];exact hn.imp id fun hn=>hn.frame hc') (ZdV h hc)
theorem CallV.of {P:Prg}{f:FuncId}{fn:Func}{first cap args:Array Value}{H:Hp}{Post:Value->Hp->Prop}(hf:P.funcs[f]? = some fn)(hb:fn.body.isSome=true)(hn:(fn.name == "runtime.NumGoroutine")=false)
  (h:Zag P f (first++args++cap) H Post):CallV P (.func (.func f) first cap) args H Post:=by
 have hbn:fn.body.isNone=false:=by simpa using hb
 unfold CallV ZiT
 simp only[Deferred.ofValue,Zaa,Zac,invoke,callFunc,ZaU,hf,hn,hbn,Bool.false_eq_true,if_false]
 exact .inr h
def Iter (P:Prg)(fv:Value)(N:Hp->Prop)(xs:List (List Value)):Prop:=
 ∀ (y:Value) (I:Nat->Hp->Prop) (S:Hp->Prop) (H:Hp),(∃ f a b,y=.func f a b)->(∀ n,Up (I n))->Up S->(∀ n H,I n H->N H) ->
  (∀ n (hn:n<xs.length) H,I n H->CallV P y (xs[n]).toArray H (fun v H'=>(v=.bool true∧I (n+1) H')∨(v=.bool false∧S H')))->I 0 H->CallV P fv #[y] H (fun _ H'=>I xs.length H'∨S H')
def Zh8 (l:Nat):Value:=.func (.yield l) #[] #[]
def ZiC (r:Nat):Deferred:={ target:=.collected r,args:=#[] }
def Zba (r l:Nat)(o:Loop):Hp:=(Hp.nil.ins r (.deferred (some []))).ins l (.loop o)
theorem Zdi (r l:Nat)(o:Loop):Zba r l o l=some (.loop o,true):=Hp.ins_same _ _ _
theorem loopX_r {r l:Nat}(h:r≠l)(o:Loop):Zba r l o r=some (.deferred (some []),true):=by
 unfold Zba
 rw[Hp.ins_other _ _ h,Hp.ins_same]
theorem Hp.join_ins {H F:Hp}{r:Nat}{o:Obj}(h:H r=none):H.join (F.ins r o)=(H.join F).ins r o:=by
 refine Hp.ext' (fun b=>?_) rfl
 simp only[Hp.join_at,Hp.ins_at]
 by_cases e:b=r
 ·subst e;simp[h]
 ·simp[e]
theorem Zf3 {H:Hp}{r l:Nat}{o:Loop}(hc:H.Comp (Zba r l o))(o':Loop):(H.join (Zba r l o)).ins l (.loop o')=H.join (Zba r l o')∧H.Comp (Zba r l o'):=by
 have hl:H l=none:=hc.left_none (Zdi r l o)
 have e:Zba r l o'=(Zba r l o).ins l (.loop o'):=by
  refine Hp.ext' (fun b=>?_) rfl
  unfold Zba
  by_cases e:b=l
  ·subst e;simp[Hp.ins_at]
  ·simp[Hp.ins_at,e]
 rw[e,Hp.join_ins hl]
 exact⟨rfl,(hc.symm.ins_new _ hl).symm⟩
theorem ZcM {P:PQ}{l:Nat}{o:Loop}{p:Bool}{H:Hp}(hst:P.still H.gh=false)(h:H l=some (.loop o,p))(Q:Loop->Bool->Hp->Prop)(g:Bool)(hq:Q o g H):wpL P (Instr.getLoop l) Q g H:=by
 simp only[Instr.getLoop,Zaa,getObj]
 exact⟨_,_,⟨hst,h⟩,rfl,rfl,hq⟩
theorem round_eq (l:Nat)(f:FuncId)(tmps:Array Value)(assign body:Code):Frame.round l f tmps assign body .normal=on (Frame.round l f tmps assign body .normal) ⟨tmps,[]⟩ [.code assign,.beginRound,.code body]:=rfl
def ZaF:Ex->Option Code
 | .normal=>none
 | .ret=>some .ret
 | .exit id=>some (.exit id)
theorem Zcq {P:Prg}{G:Frame->List Frame->Hp->Prop}{b c:Frame}{a:Act}{cs:List Frame}{r l:Nat}{o:Loop}{H:Hp}(hs:∀ g,P.still g=false)(hr:b.roundOf=some l)(hk:b.kind=.normal)(hc:H.Comp (Zba r l o))
  {e:Ex} {todo:List Item} (he:(e=.normal∧todo=[])∨(e=.ret∧∃ k',todo=.code .ret :: k')∨∃ id,e=.exit id∧∃ k',todo=.code (.exit id) :: k'∧exitTo id k'=none)
  (hG:H.Comp (Zba r l { o with state:=if (ZaF e).isNone then .ready else .done,pending:=ZaF e })->Reach P G (c.finish (.bool (ZaF e).isNone)) cs (H.join (Zba r l { o with state:=if (ZaF e).isNone then .ready else .done,pending:=ZaF e }))) :
  Reach P G (on b a todo) (c :: cs) (H.join (Zba r l o)):=by
 obtain⟨e1,e2⟩:=Zf3 hc { o with state:=if (ZaF e).isNone then .ready else .done,pending:=ZaF e }
 refine .sem (s:=Instr.endRound l (ZaF e)) (Q:=fun v _ H'=>v=.bool (ZaF e).isNone∧H'=H.join (Zba r l { o with state:=if (ZaF e).isNone then .ready else .done,pending:=ZaF e })) ?_ ?_
 ·simp only[Instr.endRound,Zaa]
  refine ZcM (hs _) (Hp.join_right hc (Zdi r l o)) _ _ ?_
  refine⟨_,⟨hs _,Hp.join_right hc (Zdi r l o)⟩,rfl,rfl,rfl,rfl,e1⟩
 ·rintro v H0 ⟨rfl,_⟩
  refine⟨c.finish (.bool (ZaF e).isNone),cs,fun main w w' es e3=>⟨seen P b.fn es,?_,.inr rfl⟩,fun H' e4=>by rw[e4.2];exact hG e2⟩
  rcases he with ⟨rfl,rfl⟩ | ⟨rfl,k',rfl⟩ | ⟨id,rfl,k',rfl,hx⟩
  ·simp only[ZaF]at e3
   simp only[stepG,stepG.exec,on,hr,ZaF,e3,doReturn,hk,GStep.after,Array.append_empty]
  ·simp only[ZaF]at e3
   simp only[stepG,stepG.exec,on,hr,ZaF,e3,doReturn,hk,GStep.after,Array.append_empty]
  ·simp only[ZaF]at e3
   simp only[stepG,stepG.exec,on,hr,ZaF,hx,Option.elim,e3,doReturn,hk,GStep.after,Array.append_empty]
theorem ZlP {P:Prg}{r l:Nat}{o:Loop}{f:FuncId}{tmps:Array Value}{assign body:Code}{H:Hp}{J:Hp->Prop}{S:Ex->Hp->Prop}(hs:∀ g,P.still g=false)(ho:o.state=.ready)(hc:H.Comp (Zba r l o))
  (h:Tri P ⟨false,false⟩ assign (Ex.then (Tri P ⟨false,false⟩ body (fun e _ H'=>match e with | .normal=>J H' | e=>S e H')) (fun _ _ _=>False)) ⟨tmps,[]⟩ H) :
  ZdM P l f tmps assign body (H.join (Zba r l o)) (fun v HF=>∃ H',(v=.bool true∧HF=H'.join (Zba r l { o with state:=.ready,pending:=none })∧H'.Comp (Zba r l { o with state:=.ready,pending:=none })∧J H') ∨
   (v=.bool false∧∃ e,e≠.normal∧HF=H'.join (Zba r l { o with state:=.done,pending:=ZaF e })∧H'.Comp (Zba r l { o with state:=.done,pending:=ZaF e })∧S e H')):=by
 intro G c cs hcl hG
 rw[round_eq]
 have hfit:Fit P ⟨false,false⟩ (Frame.round l f tmps assign body .normal):=⟨by simp[Frame.round],fun h=>by simp at h,fun h=>by simp at h⟩
 refine(h.frame hc) G (Frame.round l f tmps assign body .normal) _ (c :: cs) hcl hfit ?_
 rintro e a1 HF ⟨H1,rfl,hc1,hq⟩
 cases e with
 | ret=>exact hq.elim
 | exit id=>exact hq.elim
 | normal=>
  obtain⟨e1,e2⟩:=Zf3 hc1 { o with state:=.busy }
  refine .sem (s:=(do Instr.beginRound l;pure .skip:Sem Next)) (Q:=fun v _ H'=>v=.skip∧H'=H1.join (Zba r l { o with state:=.busy })) ?_ ?_
  ·simp only[Instr.beginRound,Zaa]
   refine ZcM (hs _) (Hp.join_right hc1 (Zdi r l o)) _ _ ?_
   refine⟨_,⟨hs _,Hp.join_right hc1 (Zdi r l o)⟩,rfl,rfl,rfl,?_⟩
   rw[ho]
   exact⟨rfl,e1⟩
  ·rintro v H0 ⟨rfl,_⟩
   refine⟨on (Frame.round l f tmps assign body .normal) a1 [.code body],c :: cs,fun main w w' es e3=>⟨seen P f es,?_,.inr rfl⟩,fun H' e4=>?_⟩
   ·have hk:((on (Frame.round l f tmps assign body .normal) a1 [Item.beginRound,Item.code body]).kind == CallKind.early)=false:=rfl
    have e5:((do (some l).elim (stuck "beginRound: no round") Instr.beginRound;pure .skip:Sem Next)).runT P w #[]=(.ok .skip w',es):=e3
    show stepG.apply P true _ _ _ _ w=_
    simp only[stepG.apply,if_true]
    show GStep.after _ _=_
    erw [e5]
    rfl
   ·rw[e4.2]
    refine(Tri.frame hq e2) G (Frame.round l f tmps assign body .normal) _ (c :: cs) hcl hfit ?_
    rintro e a2 HF ⟨H2,rfl,hc2,hq2⟩
    cases e with
    | normal=>
     refine Zcq (e:=.normal) hs rfl rfl hc2 (.inl ⟨rfl,rfl⟩) fun hc3=>hG _ _ ⟨H2,.inl ⟨rfl,rfl,hc3,hq2⟩⟩
    | ret=>
     intro k'
     refine Zcq (e:=.ret) hs rfl rfl hc2 (.inr (.inl ⟨rfl,k',rfl⟩)) fun hc3=>hG _ _ ⟨H2,.inr ⟨rfl,.ret,by simp,rfl,hc3,hq2⟩⟩
    | exit id=>
     refine⟨fun k' hk=>by simp[exitTo]at hk,fun _ k' hk'=>?_⟩
     refine Zcq (e:=.exit id) hs rfl rfl hc2 (.inr (.inr ⟨id,rfl,k',rfl,hk'⟩)) fun hc3=>hG _ _ ⟨H2,.inr ⟨rfl,.exit id,by simp,rfl,hc3,hq2⟩⟩
theorem Zho {I:Hp->Prop}{X:Hp}(hI:Up I):Up fun HF=>∃ H1:Hp,HF=H1.join X∧H1.Comp X∧I H1:=by
 rintro H J hJ ⟨H1,rfl,hc,hi⟩
 have c1:H1.Comp J:=hJ.of_join_left
 have c2:X.Comp J:=Hp.Comp.of_join_right hc hJ
 exact⟨H1.join J,Hp.join_swap c2.symm,Hp.Comp.join_l hc c2.symm,hI _ _ c1 hi⟩
theorem Zjb {P:Prg}{G:Frame->List Frame->Hp->Prop}{fr:Frame}{cs:List Frame}{H:Hp}{fv:Value}{args:Array Value}{Post:Value->Hp->Prop}(hcl:Zdq G)(hk:fr.kind≠.early)(ht:∃ l k,fr.todo=.inRangeFunc l :: k)
  (h:CallV P fv args H Post) (hG:∀ v H',Post v H'->Reach P G (fr.finish v) cs H') {w:World} (hw:H.le w) :
  ∃ fr' cs' w' H' es,stepG.apply P true fr cs none (ZiT fv args) w=.go (gor fr' cs') w' es∧Fr H w H' w'∧Reach P G fr' cs' H'∧∀ e∈es,EvL H w w'.heap.size e:=by
 obtain⟨n,w',H',es,g,e1,e2,⟨e3,e5⟩,e4⟩:=ZlA #[] h hw
 obtain rfl:g=false:=by
  cases g with
  | false=>rfl
  | true=>exact(e5 rfl).symm
 have hn:=e3.resolve_left (by simp)
 have hkd:(fr.kind == CallKind.early)=false:=Zgg hk
 have hes:∀ e∈seen P fr.fn es,EvL H w w'.heap.size e:=fun e he=>e4 e (Zht _ _ _ e he)
 simp only[Array.empty_append]at e1
 obtain⟨l,k,ht⟩:=ht
 cases n with
 | value v=>exact⟨fr.finish v,cs,w',H',_,by simp only[stepG.apply,e1,if_true,hkd,Bool.false_eq_true,if_false,GStep.after,Array.append_empty],e2,hG _ _ hn,hes⟩
 | skip=>exact⟨fr.finish undef,cs,w',H',_,by simp only[stepG.apply,e1,if_true,hkd,Bool.false_eq_true,if_false,GStep.after,Array.append_empty],e2,hG _ _ hn,hes⟩
 | enter f args=>exact⟨Frame.enter P f args .normal,fr :: cs,w',H',_,by simp only[stepG.apply,ht,e1,if_true,hkd,Bool.false_eq_true,if_false,GStep.after,Array.append_empty],e2,hn G _ cs hcl fun v H'' hv=>hG _ _ hv,hes⟩
 | round l f tmps assign body=>exact⟨Frame.round l f tmps assign body .normal,fr :: cs,w',H',_,by simp only[stepG.apply,e1,if_true,hkd,Bool.false_eq_true,if_false,GStep.after,Array.append_empty],e2,hn G _ cs hcl fun v H'' hv=>hG _ _ hv,hes⟩
 | _=>exact hn.elim
theorem ZfJ {P:Program}{main:Bool}{b:Frame}{a:Act}{k:List Item}{cs:List Frame}{f:Operand}{params:Array Tmp}{assign body:Code}{w w2:World}{l:Nat}{mk:Deferred}(hrd:b.roundOf=none)
  (hen:(Instr.enterLoop b.fn a.tmps params assign body none).runT P w #[]=(.ok (l,[mk]) w2,#[])) :
  stepG P main (gor (on b a (.code (.rangeFunc f params assign body) :: k)) cs) w =
   GStep.after (seen P b.fn #[]) (stepG.apply P true { b with tmps:=a.tmps,todo:=.inRangeFunc l :: k,defers:=mk :: a.defers,mode:=.run } cs none (ZiT (a.eval f) #[Zh8 l]) w2):=by
 obtain⟨bfn,btm,btodo,bdef,bmode,bkind,bround⟩:=b
 simp only at hrd hen
 subst hrd
 simp only[on,stepG,stepG.exec,hen]
 congr 2
 simp only[resolve,ZiT,List.map_toArray,List.map_cons,List.map_nil,Frame.eval,Zh8]
 congr 1
theorem Tri.rangeFunc {P:Prg}{nr:Bool}{f:Operand}{params:Array Tmp}{assign body:Code}{Q:Ex->Act->Hp->Prop}{a:Act}{H:Hp}(hs:∀ g,P.still g=false){N:Hp->Prop}{xs:List (List Value)}(hit:Iter P (a.eval f) N xs)
  (hlen:∀ x∈xs,x.length=params.size) (I:Nat->Hp->Prop) (S:Ex->Hp->Prop) (hup:∀ n,Up (I n)) (hupS:∀ e,Up (S e)) (hN:∀ n H J,I n H->H.Comp J->N (H.join J)) (h0:I 0 H)
  (hround:∀ n (hn:n<xs.length) H,I n H->Tri P ⟨false,false⟩ assign (Ex.then (Tri P ⟨false,false⟩ body (fun e _ H'=>match e with | .normal=>I (n+1) H' | e=>S e H')) (fun _ _ _=>False)) ⟨(params.zip (xs[n]).toArray).foldl (fun tmps (t,a)=>tmps.setIfInBounds t a) a.tmps,[]⟩ H)
  (hdone:∀ H' r J,I xs.length H'->H'.Comp J->J r=some (.deferred (some []),true)->Q .normal ⟨a.tmps,ZiC r :: a.defers⟩ (H'.join J))
  (hstop:∀ e H' r J,e≠.normal->S e H'->H'.Comp J->J r=some (.deferred (some []),true)->Q e ⟨a.tmps,ZiC r :: a.defers⟩ (H'.join J)) :
  Tri P ⟨true,nr⟩ (.rangeFunc f params assign body) Q a H:=by
 intro G b k cs hcl hb hG
 have hrd:b.roundOf=none:=hb.top rfl
 refine .step ⟨fun main w hw=>?_,fun hst=>by rw[hs]at hst;simp at hst⟩
 have hfr1:=Fr.alloc hw (.deferred (some []))
 generalize hrec:({ state:=.ready,pending:=none,fn:=b.fn,tmps:=a.tmps,params,assign,body,defers:=w.heap.size }:Loop)=rec
 have hfr2:=Fr.alloc hfr1.le (.loop rec)
 have hsz:({ w with heap:=w.heap.push (.deferred (some [])) }:World).heap.size=w.heap.size+1:=by simp
 rw[hsz]at hfr2
 have hr0:H w.heap.size=none:=by
  cases hh:H w.heap.size with
  | none=>rfl
  | some y=>exact absurd (hw.lt hh) (by omega)
 have hl0:H (w.heap.size+1)=none:=by
  cases hh:H (w.heap.size+1) with
  | none=>rfl
  | some y=>exact absurd (hw.lt hh) (by omega)
 have hX:(H.ins w.heap.size (.deferred (some []))).ins (w.heap.size+1) (.loop rec)=H.join (Zba w.heap.size (w.heap.size+1) rec):=by
  unfold Zba
  rw[Hp.join_ins hl0,Hp.join_ins hr0,Hp.join_nil]
 have hXc:H.Comp (Zba w.heap.size (w.heap.size+1) rec):=(((Hp.comp_nil H).symm.ins_new _ hr0).ins_new _ hl0).symm
 rw[hX]at hfr2
 generalize hre:w.heap.size=r at *
 generalize hle:r+1=l at *
 have hrl:r≠l:=by omega
 let fr1:Frame:={ b with tmps:=a.tmps,todo:=.inRangeFunc l :: k,defers:=ZiC r :: a.defers,mode:=.run }
 have hcall:CallV P (a.eval f) #[Zh8 l] (H.join (Zba r l rec)) (fun _ HF=>∃ (e:Ex) (H':Hp),HF=H'.join (Zba r l { rec with state:=if (ZaF e).isNone then .ready else .done,pending:=ZaF e })∧H'.Comp (Zba r l { rec with state:=if (ZaF e).isNone then .ready else .done,pending:=ZaF e })∧(match e with | .normal=>I xs.length H' | e=>S e H')):=by
  have h1:=hit (Zh8 l) (fun n HF=>∃ H1:Hp,HF=H1.join (Zba r l rec)∧H1.Comp (Zba r l rec)∧I n H1)
   (fun HF=>∃ e:Ex,e≠.normal∧∃ H1:Hp,HF=H1.join (Zba r l { rec with state:=.done,pending:=ZaF e })∧H1.Comp (Zba r l { rec with state:=.done,pending:=ZaF e })∧S e H1)
   (H.join (Zba r l rec)) ⟨_,_,_,rfl⟩ (fun n=>Zho (hup n)) (fun HF J hJ ⟨e,he,hh⟩=>⟨e,he,Zho (hupS e) HF J hJ hh⟩) ?_ ?_ ⟨H,rfl,hXc,h0⟩
  ·refine h1.mono ?_
   rintro v HF (⟨H1,rfl,hc,hi⟩ | ⟨e,he,H1,rfl,hc,hs⟩)
   ·subst hrec
    exact⟨.normal,H1,rfl,hc,hi⟩
   ·cases e with
    | normal=>exact absurd rfl he
    | ret=>exact⟨.ret,H1,rfl,hc,hs⟩
    | exit id=>exact⟨.exit id,H1,rfl,hc,hs⟩
  ·rintro n HF ⟨H1,rfl,hc,hi⟩
   exact hN n H1 _ hi hc
  ·rintro n hn HF ⟨H1,rfl,hc,hi⟩
   unfold CallV ZiT Zh8
   simp only[Deferred.ofValue,Zaa,Zac,invoke,Instr.yield]
   refine ZcM (hs _) (Hp.join_right hc (Zdi r l rec)) _ _ ?_
   have hpar:rec.params=params:=by rw[<-hrec]
   have h2:(#[]++(xs[n]).toArray).size=rec.params.size:=by
    rw[hpar];simp[hlen _ (List.getElem_mem hn)]
   simp only[h2,ne_eq,not_true_eq_false,if_false,Zac,Zlv]
   refine .inr ?_
   have h3:=hround n hn H1 hi
   have h4:=ZlP (r:=r) (l:=l) (o:=rec) (f:=rec.fn) (J:=I (n+1)) (S:=S) hs (by rw[<-hrec]) hc h3
   have h5:(rec.params.zip (#[]++(xs[n]).toArray)).foldl (fun tmps (t,a)=>tmps.setIfInBounds t a) rec.tmps=(params.zip (xs[n]).toArray).foldl (fun tmps (t,a)=>tmps.setIfInBounds t a) a.tmps:=by
    rw[<-hrec,Array.empty_append]
   have h6:rec.assign=assign:=by rw[<-hrec]
   have h7:rec.body=body:=by rw[<-hrec]
   rw[show ZdM P l rec.fn ((rec.params.zip (#[]++(xs[n]).toArray)).foldl (fun tmps (t,a)=>tmps.setIfInBounds t a) rec.tmps) rec.assign rec.body=ZdM P l rec.fn ((params.zip (xs[n]).toArray).foldl (fun tmps (t,a)=>tmps.setIfInBounds t a) a.tmps) assign body by rw[h5,h6,h7]]
   refine h4.mono ?_
   rintro v HF ⟨H2,⟨rfl,e1,e2,e3⟩ | ⟨rfl,e,he,e1,e2,e3⟩⟩
   ·refine .inl ⟨rfl,H2,?_,?_,e3⟩
    ·rw[e1];congr 2;rw[<-hrec]
    ·rw[<-hrec];rw[<-hrec]at e2;exact e2
   ·exact .inr ⟨rfl,e,he,H2,e1,e2,e3⟩
 have hnext:∀ v HF,(∃ (e:Ex) (H':Hp),HF=H'.join (Zba r l { rec with state:=if (ZaF e).isNone then .ready else .done,pending:=ZaF e })∧H'.Comp (Zba r l { rec with state:=if (ZaF e).isNone then .ready else .done,pending:=ZaF e })∧(match e with | .normal=>I xs.length H' | e=>S e H'))->Reach P G (fr1.finish v) cs HF:=by
  rintro v HF ⟨e,H1,rfl,hc,hq⟩
  obtain⟨e1,e2⟩:=Zf3 hc { rec with state:=.exhausted,pending:=ZaF e }
  refine .sem (s:=Instr.endLoop l) (Q:=fun v _ H'=>v=ZaF e∧H'=H1.join (Zba r l { rec with state:=.exhausted,pending:=ZaF e })) ?_ ?_
  ·simp only[Instr.endLoop,Zaa]
   refine ZcM (hs _) (Hp.join_right hc (Zdi r l _)) _ _ ?_
   have:((if (ZaF e).isNone=true then LoopState.ready else LoopState.done) == LoopState.busy)=false:=by cases e<;>rfl
   simp only[this,Bool.false_eq_true,if_false,Zac]
   exact⟨_,⟨hs _,Hp.join_right hc (Zdi r l _)⟩,rfl,rfl,rfl,rfl,e1⟩
  ·rintro v H0 ⟨rfl,_⟩
   refine⟨on b ⟨a.tmps,ZiC r :: a.defers⟩ (((ZaF e).map Item.code).toList++k),cs,fun main w w' es e3=>⟨seen P b.fn es,?_,.inr rfl⟩,fun H' e4=>?_⟩
   ·simp only[fr1,Frame.finish,stepG,stepG.exec,e3,GStep.after,Array.append_empty]
    rfl
   ·rw[e4.2]
    have hJ:=loopX_r hrl ({ rec with state:=.exhausted,pending:=ZaF e }:Loop)
    cases e with
    | normal=>exact hG .normal _ _ (hdone _ r _ hq e2 hJ)
    | ret=>exact hG .ret _ _ (hstop .ret _ r _ (by simp) hq e2 hJ) k
    | exit id=>exact Tri.exit (hstop (.exit id) _ r _ (by simp) hq e2 hJ) G b k cs hcl hb hG
 have hw2:(H.join (Zba r l rec)).le _:=hfr2.le
 obtain⟨fr',cs',w',H',es,a1,a2,a3,a4⟩:=Zjb (fr:=fr1) hcl hb.kind ⟨l,k,rfl⟩ hcall hnext hw2
 have htr:=(hfr1.trans hfr2).trans a2
 refine⟨fr',cs',w',H',seen P b.fn #[]++es,?_,htr,a3,fun e he=>?_⟩
 ·have hen:(Instr.enterLoop b.fn a.tmps params assign body none).runT P w #[]=(.ok (l,[ZiC r]) { { w with heap:=w.heap.push (.deferred (some [])) } with heap:=(w.heap.push (.deferred (some []))).push (.loop rec) },#[]):=by
   subst hle
   subst hre
   subst hrec
   simp[- Sem.runT_eq,Instr.enterLoop,newObj,Sem.runT,bind,Sem.bind,pure,ZiC]
  rw[ZfJ hrd hen]
  show GStep.after _ (stepG.apply P true fr1 cs none _ _)=_
  rw[a1]
  rfl
 ·rcases Array.mem_append.1 he with he | he
  ·exact absurd (Zht _ _ _ e he) (by simp)
  ·exact(a4 e he).back (hfr1.trans hfr2) a2.size
end Go.LL
end
