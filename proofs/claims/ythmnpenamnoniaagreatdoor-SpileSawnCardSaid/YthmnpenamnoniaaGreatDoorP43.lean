import Derived.Test.YthmnpenamnoniaaGreatDoorP42
import Derived.OpenShut
import Derived.SevenTiedAt
set_option linter.all false
section
open Go Go.LL Go.Conc Go.ConcM
namespace Go.Proofs
open YthmnpenamnoniaaGreatDoor
section
variable  {H:Type}{enc:TypeId×Value->H}{W:World}{base:Nat}{sp:Nat->Bool}{held:Bool}{fuel:Nat}{cs:List Value}{y:DataW H×List MemPlace}
theorem ZhL {P:Program}{r:Reach}{b0:Nat}{t:TypeId}{v:Value}{fs:Array Field}(ht:P.underlying t=some (.struct fs))(h:Value.okWide P W r b0 t v):∃ c,v=.agg c:=by
 unfold Value.okWide at h
 rw[ht]at h
 obtain⟨c,rfl,_⟩:=h
 exact⟨c,rfl⟩
theorem ZdR {W:World}{a:Addr}{v:Value}(h:W.cell? a=some v):a.spot=none∧∃ o,W.heap[a.block]? = some o∧Obj.at? o a.off=some v:=by
 unfold World.cell? at h
 split at h
 ·rename_i c t f ho
  split at h
  ·simp at h
  ·rename_i hs
   exact⟨by simpa using hs,_,ho,h⟩
 ·simp at h
theorem Zg2 (h:DataW.trod enc Tryz.prog W base sp held fuel 3 cs=some y):∃ n,cs=[vi n]:=by
 obtain⟨n,h,_⟩:=DataW.trod_int Tryz.underlying3 h
 exact⟨n,h⟩
theorem cut2 {cs:List Value}{i:Nat}{v:Value}(h:(cs.drop i).take 1=[v]):cs[i]? = some v:=by
 have:=congrArg (·[0]?) h
 simpa[List.getElem?_take,List.getElem?_drop]using this
theorem ZhQ {l m:List Value}(hl:l.length=m.length)(h:∀ i,i<m.length->l[i]? = m[i]?):l=m:=by
 apply List.ext_getElem?
 intro i
 rcases Nat.lt_or_ge i m.length with hi | hi
 ·exact h i hi
 ·rw[List.getElem?_eq_none hi,List.getElem?_eq_none (by omega)]
theorem Zkx:Tryz.prog.cellsOf 3=1:=by kernel_rfl
theorem ZjA:Tryz.prog.cellsOf 56=2:=by kernel_rfl
theorem ZmR:Tryz.prog.cellsOf 101=3:=by kernel_rfl
theorem ZmQ:Tryz.prog.cellsOf 110=5:=by kernel_rfl
theorem cells22:Tryz.prog.cellsOf 22=1:=by kernel_rfl
theorem cells23:Tryz.prog.cellsOf 23=1:=by kernel_rfl
theorem cells25:Tryz.prog.cellsOf 25=4:=by kernel_rfl
theorem ZaQ {α β:Type}{xs:List (α×β)}{i:Nat}(h:i<xs.length):∃ y,xs[i]? = some y:=⟨_,List.getElem?_eq_getElem h⟩
theorem Zi6 (h:DataW.trod enc Tryz.prog W base sp held fuel 56 cs=some y):∃ a b,cs=[vi a,vi b]:=by
 obtain⟨xs,n,rfl,_,hl,hx,hf⟩:=DataW.trod_struct Tryz.underlying56 h
 rw[ZjA]at hl
 obtain⟨y0,h0⟩:=ZaQ (xs:=xs) (i:=0) (by rw[hx];decide)
 obtain⟨y1,h1⟩:=ZaQ (xs:=xs) (i:=1) (by rw[hx];decide)
 have f0:DataW.trod enc Tryz.prog W base sp held n 3 ((cs.drop 0).take (Tryz.prog.cellsOf 3))=xs[0]?:=hf 0 _ rfl
 have f1:DataW.trod enc Tryz.prog W base sp held n 3 ((cs.drop 1).take (Tryz.prog.cellsOf 3))=xs[1]?:=hf 1 _ rfl
 rw[h0]at f0
 rw[h1]at f1
 obtain⟨a,ha⟩:=Zg2 f0
 obtain⟨b,hb⟩:=Zg2 f1
 rw[Zkx]at ha hb
 have ha:=cut2 ha
 have hb:=cut2 hb
 refine⟨a,b,ZhQ hl fun i hi=>?_⟩
 match i,hi with
 | 0,_=>exact ha
 | 1,_=>exact hb
theorem ck_trod (h:DataW.trod enc Tryz.prog W base sp held fuel 101 cs=some y):∃ x:SCk,cs=Enc.enc x:=by
 obtain⟨xs,n,rfl,_,hl,hx,hf⟩:=DataW.trod_struct Tryz.underlying101 h
 rw[ZmR]at hl
 obtain⟨y0,h0⟩:=ZaQ (xs:=xs) (i:=0) (by rw[hx];decide)
 obtain⟨y1,h1⟩:=ZaQ (xs:=xs) (i:=1) (by rw[hx];decide)
 have f0:DataW.trod enc Tryz.prog W base sp held n 3 ((cs.drop 0).take (Tryz.prog.cellsOf 3))=xs[0]?:=hf 0 _ rfl
 have f1:DataW.trod enc Tryz.prog W base sp held n 56 ((cs.drop 1).take (Tryz.prog.cellsOf 56))=xs[1]?:=hf 1 _ rfl
 rw[h0]at f0
 rw[h1]at f1
 obtain⟨a,ha⟩:=Zg2 f0
 obtain⟨b,c,hb⟩:=Zi6 f1
 rw[Zkx]at ha
 rw[ZjA]at hb
 have ha:=cut2 ha
 have hb0:=congrArg (·[0]?) hb
 have hb1:=congrArg (·[1]?) hb
 simp[List.getElem?_take,List.getElem?_drop]at hb0 hb1
 refine⟨⟨a,b,c⟩,ZhQ hl fun i hi=>?_⟩
 match i,hi with
 | 0,_=>exact ha
 | 1,_=>exact hb0
 | 2,_=>exact hb1
theorem pt_trod (h:DataW.trod enc Tryz.prog W base sp held fuel 110 cs=some y):∃ x:SPt,cs=Enc.enc x:=by
 obtain⟨xs,n,rfl,_,hl,hx,hf⟩:=DataW.trod_struct Tryz.underlying110 h
 rw[ZmQ]at hl
 obtain⟨y0,h0⟩:=ZaQ (xs:=xs) (i:=0) (by rw[hx];decide)
 obtain⟨y1,h1⟩:=ZaQ (xs:=xs) (i:=1) (by rw[hx];decide)
 obtain⟨y2,h2⟩:=ZaQ (xs:=xs) (i:=2) (by rw[hx];decide)
 have f0:DataW.trod enc Tryz.prog W base sp held n 56 ((cs.drop 0).take (Tryz.prog.cellsOf 56))=xs[0]?:=hf 0 _ rfl
 have f1:DataW.trod enc Tryz.prog W base sp held n 56 ((cs.drop 2).take (Tryz.prog.cellsOf 56))=xs[1]?:=hf 1 _ rfl
 have f2:DataW.trod enc Tryz.prog W base sp held n 3 ((cs.drop 4).take (Tryz.prog.cellsOf 3))=xs[2]?:=hf 2 _ rfl
 rw[h0]at f0
 rw[h1]at f1
 rw[h2]at f2
 obtain⟨a,b,ha⟩:=Zi6 f0
 obtain⟨c,d,hb⟩:=Zi6 f1
 obtain⟨e,hc⟩:=Zg2 f2
 rw[ZjA]at ha hb
 rw[Zkx]at hc
 have hc:=cut2 hc
 have ha0:=congrArg (·[0]?) ha
 have ha1:=congrArg (·[1]?) ha
 have hb0:=congrArg (·[0]?) hb
 have hb1:=congrArg (·[1]?) hb
 simp[List.getElem?_take,List.getElem?_drop]at ha0 ha1 hb0 hb1
 refine⟨⟨a,b,c,d,e⟩,ZhQ hl fun i hi=>?_⟩
 match i,hi with
 | 0,_=>exact ha0
 | 1,_=>exact ha1
 | 2,_=>exact hb0
 | 3,_=>exact hb1
 | 4,_=>exact hc
theorem ZlM {α:Type}[Enc α]{t e:TypeId}(ht:Tryz.prog.underlying t=some (.slice e))(hc:Tryz.prog.cellsOf e=Enc.sz α)(hpos:0<Enc.sz α)
  (hel:∀ {n:Nat} {cs:List Value} {y:DataW H×List MemPlace},DataW.trod enc Tryz.prog W base sp held n e cs=some y->∃ x:α,cs=Enc.enc x)
  (h:DataW.trod enc Tryz.prog W base sp held fuel t cs=some y):∃ v,cs=[v]∧∃ l:List α,SlAt (roW W) v l:=by
 rcases DataW.trod_slice ht h with ⟨rfl,_⟩ | ⟨a,len,cap,elems,rest,n,_,rfl,_,_,hl,_,hlen,hE,_⟩
 ·exact⟨_,rfl,[],.nil _⟩
 have hx:∀ i,i<len->∃ x:α,W.cells? base (a.add (i * Enc.sz α)) (Enc.sz α)=some (Enc.enc x):=by
  intro i hi
  obtain⟨y,hy⟩:=ZaQ (xs:=elems) (i:=i) (by omega)
  have:=hE i hi
  rw[hy,hc,Option.bind_eq_some_iff]at this
  obtain⟨c,h1,h2⟩:=this
  obtain⟨x,rfl⟩:=hel h2
  exact⟨x,h1⟩
 let l:List α:=List.ofFn fun i:Fin len=>(hx i.1 i.2).choose
 have hll:l.length=len:=by simp[l]
 have hg:∀ i (hi:i<l.length),W.cells? base (a.add (i * Enc.sz α)) (Enc.sz α)=some (Enc.enc l[i]):=by
  intro i hi
  have:=(hx i (by omega)).choose_spec
  simpa[l]using this
 refine⟨_,rfl,l,some a,cap,by rw[hll],fun hne=>⟨a,rfl,?_⟩⟩
 have hcell:∀ i (hi:i<l.length),∀ j,j<Enc.sz α->W.cell? ((a.add (i * Enc.sz α)).add j)=(Enc.enc l[i])[j]?:=fun i hi=>(World.cells?_some (hg i hi)).2.2
 have hpos':0<l.length:=List.length_pos_iff.2 hne
 have hsp:a.spot=none∧∃ o,W.heap[a.block]? = some o:=by
  have h0:=hcell 0 hpos' 0 hpos
  have:((Enc.enc l[0])[0]? : Option Value)=some ((Enc.enc l[0])[0]'(by rw[Enc.len];exact hpos)):=List.getElem?_eq_getElem _
  rw[this]at h0
  obtain⟨s1,o,s2,_⟩:=ZdR h0
  have e0:(a.add (0 * Enc.sz α)).add 0=a:=by simp[Addr.add]
  rw[e0]at s1 s2
  exact⟨s1,o,s2⟩
 obtain⟨hs,o,ho⟩:=hsp
 refine⟨hs,o,false,by rw[ZlS,ho];rfl,fun j hj=>?_⟩
 rw[Zck]at hj
 have hi:j / Enc.sz α<l.length:=(Nat.div_lt_iff_lt_mul hpos).2 hj
 have hm:j % Enc.sz α<Enc.sz α:=Nat.mod_lt _ hpos
 have hjj:j=j / Enc.sz α * Enc.sz α+j % Enc.sz α:=(Nat.div_add_mod' j _).symm
 have hv:(Enc.enc l[j / Enc.sz α])[j % Enc.sz α]? = some ((Enc.enc l[j / Enc.sz α])[j % Enc.sz α]'(by rw[Enc.len];exact hm)):=List.getElem?_eq_getElem _
 have hc2:=hcell _ hi _ hm
 rw[hv]at hc2
 obtain⟨_,o',s2,s3⟩:=ZdR hc2
 rw[ZbM,ZbM,ho]at s2
 obtain rfl:=Option.some.inj s2
 rw[Zc0,Zc0,Nat.add_assoc,<-hjj]at s3
 have e9:=Zjv l _ _ hi hm
 rw[<-hjj]at e9
 rw[s3,e9,hv]
theorem bk_trod (h:DataW.trod enc Tryz.prog W base sp held fuel 25 cs=some y):∃ b,BkAt (roW W) (.agg cs.toArray) b:=by
 obtain⟨xs,n,rfl,_,hl,hx,hf⟩:=DataW.trod_struct Tryz.underlying25 h
 rw[cells25]at hl
 obtain⟨y0,h0⟩:=ZaQ (xs:=xs) (i:=0) (by rw[hx];decide)
 obtain⟨y1,h1⟩:=ZaQ (xs:=xs) (i:=1) (by rw[hx];decide)
 obtain⟨y2,h2⟩:=ZaQ (xs:=xs) (i:=2) (by rw[hx];decide)
 obtain⟨y3,h3⟩:=ZaQ (xs:=xs) (i:=3) (by rw[hx];decide)
 have f0:DataW.trod enc Tryz.prog W base sp held n 3 ((cs.drop 0).take (Tryz.prog.cellsOf 3))=xs[0]?:=hf 0 _ rfl
 have f1:DataW.trod enc Tryz.prog W base sp held n 3 ((cs.drop 1).take (Tryz.prog.cellsOf 3))=xs[1]?:=hf 1 _ rfl
 have f2:DataW.trod enc Tryz.prog W base sp held n 22 ((cs.drop 2).take (Tryz.prog.cellsOf 22))=xs[2]?:=hf 2 _ rfl
 have f3:DataW.trod enc Tryz.prog W base sp held n 23 ((cs.drop 3).take (Tryz.prog.cellsOf 23))=xs[3]?:=hf 3 _ rfl
 rw[h0]at f0
 rw[h1]at f1
 rw[h2]at f2
 rw[h3]at f3
 obtain⟨a,ha⟩:=Zg2 f0
 obtain⟨b,hb⟩:=Zg2 f1
 obtain⟨pv,hp,pl,hpl⟩:=ZlM (α:=SPt) Tryz.underlying22 ZmQ (by decide) (fun h=>pt_trod h) f2
 obtain⟨cv,hc,cl,hcl⟩:=ZlM (α:=SCk) Tryz.underlying23 ZmR (by decide) (fun h=>ck_trod h) f3
 rw[Zkx]at ha hb
 rw[cells22]at hp
 rw[cells23]at hc
 have ha:=cut2 ha
 have hb:=cut2 hb
 have hp:=cut2 hp
 have hc:=cut2 hc
 refine⟨⟨a,b,pl,cl⟩,pv,cv,?_,hpl,hcl⟩
 have:cs=[vi a,vi b,pv,cv]:=ZhQ hl fun i hi=>by
  match i,hi with
  | 0,_=>exact ha
  | 1,_=>exact hb
  | 2,_=>exact hp
  | 3,_=>exact hc
 rw[this]
set_option maxRecDepth 100000 in
theorem bk_open {r:Reach}{b0:Nat}{v:Value}{d:DataW H}{ps:List MemPlace}(hval:Value.okWide Tryz.prog W r b0 25 v)(hd:DataW.Trod enc Tryz.prog W base sp held 25 v d ps):∃ b,BkAt (roW W) v b:=by
 obtain⟨fuel,hf⟩:=hd
 obtain⟨c,rfl⟩:=ZhL Tryz.underlying25 hval
 have:=bk_trod hf
 simpa[Value.cells]using this
end
end Go.Proofs
end
section
open Go Go.LL Go.Conc Go.ConcM
namespace Go.Proofs
open YthmnpenamnoniaaGreatDoor
open Go.ChangeShapes Go.WideShapes Go.ChangeAt Go.RowKit
theorem Zmy (Lk:Looks){p:Pinned}{s:OpenSpec}{c:OpenClaim}(kinds:List LaidKind)(tests:Bool)(har:Bool×String)(lk:Bool)
  (hc:c.holds p s) (hw:c.wfByText s=true) (htie:c.laidByTextAt Lk p kinds tests)
  (hst:c.start=.entering) (hnb:c.noBlocks=false∧c.again=false) (hm:p.checked.prog.mainIs=some (har.1,har.2.toList)) (hn:(!har.1 && har.2.isEmpty && !lk)=false)
  (hl:∀ f fn,p.checked.prog.funcNamed c.func=some f->p.checked.prog.funcs[f]? = some fn->lk=p.checked.prog.looks []∧∀ (j:Nat) t,fn.params[j]? = some t->p.checked.prog.wantsStandIn t=false)
  (hg:true=c.goesBy p.checked.prog) :
  Claim7.holds p (.plain s) { stood:={ row:=c,standIns:=[],harness:=har,looks:=lk },kinds:=[],alts:=[],goes:=true,laidByText:=true,laidKinds:=kinds,laidTests:=tests,laidLooks:=Lk }:=by
 have h6:∀ r:OpenClaim,Claim7.isSixth { stood:={ row:=r,standIns:=[],harness:=har,looks:=lk },kinds:=[] }=false:=fun r=>by simpa[Claim7.isSixth]using hn
 refine⟨Claim7.tied_new_at Lk kinds tests (Claim7.new_of_sixth hc har lk hst hnb hm (h6 c) hl) hw,fun D hD=>?_,htie,(fun h=>by cases h),hg⟩
 simp at hD
section
variable  {H:Type}{enc:TypeId×Value->H}
theorem Zeh {P:Program}(hl:laidOutB P=true){W W':World}(hb:Below W.heap.size W W'):∀ {ts:List TypeId} {vs:List Value} {ds:List (DataW H)} {ps:List MemPlace},(∀ t∈ts,P.readableRec t=true∧t<P.types.size) ->
  DataW.TrodAll enc P W 0 (fun _=>true) true ts vs ds ps->(∀ x∈ps,x.block<W.heap.size)->DataW.TrodAll enc P W' 0 (fun b=>decide (b<W.heap.size)) true ts vs ds ps
 | [],[],[],_,_,h,_=>h
 | t :: ts,v :: vs,d :: ds,ps,hr,h,hlt=>by
  obtain⟨p,q,h1,h2,rfl⟩:=h
  have ht:=hr t (by simp)
  exact⟨p,q,hb.trod hl ht.1 ht.2 h1 (fun x hx=>hlt x (by simp[hx])),Zeh hl hb (fun t ht=>hr t (by simp[ht])) h2 (fun x hx=>hlt x (by simp[hx])),rfl⟩
 | [],_ :: _,_,_,_,h,_=>by simp[DataW.TrodAll]at h
 | [],[],_ :: _,_,_,h,_=>by simp[DataW.TrodAll]at h
 | _ :: _,[],_,_,_,h,_=>by simp[DataW.TrodAll]at h
 | _ :: _,_ :: _,[],_,_,h,_=>by simp[DataW.TrodAll]at h
theorem ZfF {P:Program}{W:World}{base:Nat}{sp:Nat->Bool}{held:Bool}:∀ {ts:List TypeId} {vs:List Value} {ds:List (DataW H)} {ps:List MemPlace},DataW.TrodAll enc P W base sp held ts vs ds ps->ds.length=ts.length
 | [],[],[],_,_=>rfl
 | t :: ts,v :: vs,d :: ds,ps,h=>by
  obtain⟨p,q,h1,h2,rfl⟩:=h
  simp[ZfF h2]
 | [],_ :: _,_,_,h=>by simp[DataW.TrodAll]at h
 | [],[],_ :: _,_,h=>by simp[DataW.TrodAll]at h
 | _ :: _,[],_,_,h=>by simp[DataW.TrodAll]at h
 | _ :: _,_ :: _,[],_,h=>by simp[DataW.TrodAll]at h
set_option maxRecDepth 100000 in
theorem law_lifted (L:List (String×DataW Unit)){Gl:Hp->Prop}(hGl:∀ W,laidMetH Tryz.prog L W->Gl (roW W))(hdoor:∀ (os:Os) (args:Array Value),laidMetH Tryz.prog L ((World.doorLaid Tryz.prog 600 os).forCall (fun _ _=>0) ⟨#[],args,[]⟩).memory){f:FuncId}{fn:Func}{t:Nat}{s:ChangeSpec}(os:Os)(started:os.Started)(F:Stop.Interp)(hvars:s.vars=[])
  (hfn:Tryz.prog.funcs[f]? = some fn) (hres:fn.results=#[.tmp t]) (hrt:fn.resultTypes=#[4]) (hin:Tryz.prog.inits.idxOf? f=none)
  (hs:∀ ds:List (DataW H),ds.length=fn.params.toList.length->s.fn H ds={ results:=[.lit (.bool true)],args:=ds })
  (hpar:∀ t∈fn.params.toList,Tryz.prog.readableRec t=true∧t<Tryz.prog.types.size)
  (hwalk:∀ (W:World) (base:Nat) (args:Array Value) (ds:List (DataW H)) (p:List MemPlace),(∀ (j:Nat) t v,fn.params[j]? = some t->args[j]? = some v->Value.okWide Tryz.prog W .any base t v) ->
   DataW.TrodAll enc Tryz.prog W 0 (fun _=>true) true fn.params.toList args.toList ds p->Gl (roW W)->LL.Reach PP (TopG Tryz.prog f fn t (vb true)) (Frame.enter Tryz.prog f args .normal) [] (roW W))
  (args0:Array Value)
  (hok:Input.okWideB Tryz.prog ((World.doorLaid Tryz.prog 600 os).forCall (fun _ _=>0) ⟨#[],args0,[]⟩) f ⟨#[],args0,[]⟩=true)
  (hpre:s.preB enc Tryz.prog fn [] false ((World.doorLaid Tryz.prog 600 os).forCall (fun _ _=>0) ⟨#[],args0,[]⟩).memory args0 8=true)
  (hsz:s.sizedB enc Tryz.prog fn false ((World.doorLaid Tryz.prog 600 os).forCall (fun _ _=>0) ⟨#[],args0,[]⟩).memory args0 8=true) :
  ReturnsInLeavingWide { calm:=true } Tryz.checked os f .any (fun w args=>(s.pre enc Tryz.prog fn [] false w args∧laidMetH Tryz.prog L w)∧sizedMet enc Tryz.prog fn (OpenSpec.ofChange s) false w args)
   ((OpenSpec.ofChange s).postWith enc Tryz.prog fn F (outsideKept [.timePasses]) false true false):=by
 refine Zjl (C:=Tryz.checked) (X:=fun w _=>laidMetH Tryz.prog L w) (fun _ _ _ hh h=>h.of_heap hh) tzOwn started hfn
  (ZfC (enc:=enc) (C:=Tryz.checked) (os:=os) (X:=fun w _=>laidMetH Tryz.prog L w) (World.doorLaid Tryz.prog 600 os) args0 8 rfl (wShaped os args0) hok hpre hsz (hdoor os args0)) ?_
 intro W base args ds gs before hval0 hW0 hL
 have hW:DataW.Whole enc Tryz.prog fn.params.toList s.vars false W args.toList ds gs before:=hW0
 have hval:∀ (j:Nat) t v,fn.params[j]? = some t->args[j]? = some v->Value.okWide Tryz.prog W .any base t v:=hval0
 have hW':=hW
 obtain⟨p,q,hA,hV,rfl,_,_⟩:=hW
 rw[hvars]at hV
 obtain⟨rfl,rfl⟩:=trodVars_none hV
 obtain⟨M,last,o,w',t',r1,r2,r3,v,e,hp,g1,g2,g3,g4⟩:=run_top hin (hwalk W base args ds p hval hA (hGl W hL))
 refine⟨M,last,o,w',t',r1,r2,r3,v,e,⟨?_,hp.2.os⟩,g1,g2,g3,g4⟩
 obtain⟨rfl,hk⟩:=hp
 have hbel:Below W.heap.size W { w' with os:=W.os }:=⟨rfl,hk.tape,hk.out,hk.size,hk.heap⟩
 have hlt:∀ x∈p++[],x.block<W.heap.size:=fun x hx=>hW'.lt x hx
 rw[List.append_nil]at hlt
 have hse:=hs ds (ZfF hA)
 have hall:=Zeh ZlG hbel hpar hA hlt
 refine⟨ds,[],p++[],[],p,[],hW',?_,?_,?_,hbel.frame _,fun h=>by cases h⟩
 ·rw[List.append_nil,hse,hrt]
  exact trodAll_mk1 (shut_bool Tryz.underlying4 _)
 ·rw[List.append_nil,hse]
  exact hall
 ·rw[hvars,List.append_nil,hse]
  rfl
end
end Go.Proofs
end
section
open Go Go.LL
namespace Go.Proofs
def fitB (b:Bk):Bool:=decide (b.pts.length<=20) && decide (b.cks.length<=20) && decide (snag b=0)
structure U16 where
 n:Int
 lo:0<=n
 hi:n<65536
instance:Enc U16:=⟨1,fun u=>[.int .u16 u.n],fun _=>rfl⟩
section
variable  {P:Prg}[Tz P][Loud P]{H:Hp}
set_option maxHeartbeats 4000000
set_option maxRecDepth 20000
theorem Fit_ok {bv:Value}{b:Bk}(hb:BkAt H bv b):LL.Zag P 6 #[bv] H fun v H'=>H=H'∧v=vb (fitB b):=by
 have hs:=Loud.loud (P:=P)
 have hb0:=hb
 obtain⟨pv,cv,rfl,hp,hc⟩:=hb
 refine IsN.m (isn c48) (args:=[.agg #[vi b.op,vi b.sl,pv,cv]]) rfl ?_
 unfold n48
 refine wkT ?_
 refine Zab (vs:=[.agg #[vi b.op,vi b.sl,pv,cv]]) rfl (Great_ok hb0) ?_
 rintro v _ ⟨rfl,rfl⟩
 refine wkT ?_
 refine wiT (fun h1=>?_) (fun h1=>?_)
 ·refine wkT ?_
  simp only[Bool.not_eq_true',Bool.or_eq_false_iff,decide_eq_false_iff_not]at h1
  refine Zab (vs:=[.agg #[vi b.op,vi b.sl,pv,cv]]) rfl (Zh7 hb0 (by omega) (by omega)) ?_
  rintro v _ ⟨rfl,rfl⟩
  refine wkT ?_
  refine⟨rfl,?_⟩
  have e:∀ z:Int,(z == 0)=decide (z=0):=fun z=>by rw[Bool.eq_iff_iff];simp
  have a1:b.pts.length<=20:=by omega
  have a2:b.cks.length<=20:=by omega
  simp[Zbd,fitB,h1,a1,a2,e]
 ·refine wkT ?_
  refine⟨rfl,?_⟩
  simp only[Bool.not_eq_false',Bool.not_eq_true,Bool.not_eq_false,Bool.or_eq_true,decide_eq_true_eq]at h1
  have:fitB b=false:=by
   rw[Bool.eq_false_iff]
   intro h
   simp only[fitB,Bool.and_eq_true,decide_eq_true_eq]at h
   omega
  rw[this]
  rfl
end
end Go.Proofs
end
section

end
