import Derived.Test.YtamdhefhhdgjbaaGreatDoorN46
import Derived.OpenShut
import Derived.SevenTiedAt
set_option linter.all false
section
open Go Go.LL Go.Conc Go.ConcM
namespace Go.Proofs
open YtamdhefhhdgjbaaGreatDoor
section
variable  {H:Type}{enc:TypeId×Value->H}{W:World}{base:Nat}{sp:Nat->Bool}{held:Bool}{fuel:Nat}{cs:List Value}{y:DataW H×List MemPlace}
theorem Zdd {P:Program}{r:Reach}{b0:Nat}{t:TypeId}{v:Value}{fs:Array Field}(ht:P.underlying t=some (.struct fs))(h:Value.okWide P W r b0 t v):∃ c,v=.agg c:=by
 unfold Value.okWide at h
 rw[ht]at h
 obtain⟨c,rfl,_⟩:=h
 exact⟨c,rfl⟩
theorem Zcx {W:World}{a:Addr}{v:Value}(h:W.cell? a=some v):a.spot=none∧∃ o,W.heap[a.block]? = some o∧Obj.at? o a.off=some v:=by
 unfold World.cell? at h
 split at h
 ·rename_i c t f ho
  split at h
  ·simp at h
  ·rename_i hs
   exact⟨by simpa using hs,_,ho,h⟩
 ·simp at h
theorem ZhR (h:DataW.trod enc Tryz.prog W base sp held fuel 3 cs=some y):∃ n,cs=[vi n]:=by
 obtain⟨n,h,_⟩:=DataW.trod_int Tryz.underlying3 h
 exact⟨n,h⟩
theorem cut2 {cs:List Value}{i:Nat}{v:Value}(h:(cs.drop i).take 1=[v]):cs[i]? = some v:=by
 have:=congrArg (·[0]?) h
 simpa[List.getElem?_take,List.getElem?_drop]using this
theorem ZiL {l m:List Value}(hl:l.length=m.length)(h:∀ i,i<m.length->l[i]? = m[i]?):l=m:=by
 apply List.ext_getElem?
 intro i
 rcases Nat.lt_or_ge i m.length with hi | hi
 ·exact h i hi
 ·rw[List.getElem?_eq_none hi,List.getElem?_eq_none (by omega)]
theorem ZlP:Tryz.prog.cellsOf 3=1:=by kernel_rfl
theorem ZkQ:Tryz.prog.cellsOf 49=2:=by kernel_rfl
theorem ZoM:Tryz.prog.cellsOf 51=3:=by kernel_rfl
theorem ZoL:Tryz.prog.cellsOf 59=5:=by kernel_rfl
theorem cells22:Tryz.prog.cellsOf 22=1:=by kernel_rfl
theorem cells23:Tryz.prog.cellsOf 23=1:=by kernel_rfl
theorem cells25:Tryz.prog.cellsOf 25=4:=by kernel_rfl
theorem cells178:Tryz.prog.cellsOf 178=3:=by kernel_rfl
theorem cells177:Tryz.prog.cellsOf 177=1:=by kernel_rfl
theorem ZaY {α β:Type}{xs:List (α×β)}{i:Nat}(h:i<xs.length):∃ y,xs[i]? = some y:=⟨_,List.getElem?_eq_getElem h⟩
theorem Zie (h:DataW.trod enc Tryz.prog W base sp held fuel 49 cs=some y):∃ a b,cs=[vi a,vi b]:=by
 obtain⟨xs,n,rfl,_,hl,hx,hf⟩:=DataW.trod_struct Tryz.underlying49 h
 rw[ZkQ]at hl
 obtain⟨y0,h0⟩:=ZaY (xs:=xs) (i:=0) (by rw[hx];decide)
 obtain⟨y1,h1⟩:=ZaY (xs:=xs) (i:=1) (by rw[hx];decide)
 have f0:DataW.trod enc Tryz.prog W base sp held n 3 ((cs.drop 0).take (Tryz.prog.cellsOf 3))=xs[0]?:=hf 0 _ rfl
 have f1:DataW.trod enc Tryz.prog W base sp held n 3 ((cs.drop 1).take (Tryz.prog.cellsOf 3))=xs[1]?:=hf 1 _ rfl
 rw[h0]at f0
 rw[h1]at f1
 obtain⟨a,ha⟩:=ZhR f0
 obtain⟨b,hb⟩:=ZhR f1
 rw[ZlP]at ha hb
 have ha:=cut2 ha
 have hb:=cut2 hb
 refine⟨a,b,ZiL hl fun i hi=>?_⟩
 match i,hi with
 | 0,_=>exact ha
 | 1,_=>exact hb
theorem ZoH (h:DataW.trod enc Tryz.prog W base sp held fuel 51 cs=some y):∃ x:SCk,cs=Enc.enc x:=by
 obtain⟨xs,n,rfl,_,hl,hx,hf⟩:=DataW.trod_struct Tryz.underlying51 h
 rw[ZoM]at hl
 obtain⟨y0,h0⟩:=ZaY (xs:=xs) (i:=0) (by rw[hx];decide)
 obtain⟨y1,h1⟩:=ZaY (xs:=xs) (i:=1) (by rw[hx];decide)
 have f0:DataW.trod enc Tryz.prog W base sp held n 3 ((cs.drop 0).take (Tryz.prog.cellsOf 3))=xs[0]?:=hf 0 _ rfl
 have f1:DataW.trod enc Tryz.prog W base sp held n 49 ((cs.drop 1).take (Tryz.prog.cellsOf 49))=xs[1]?:=hf 1 _ rfl
 rw[h0]at f0
 rw[h1]at f1
 obtain⟨a,ha⟩:=ZhR f0
 obtain⟨b,c,hb⟩:=Zie f1
 rw[ZlP]at ha
 rw[ZkQ]at hb
 have ha:=cut2 ha
 have hb0:=congrArg (·[0]?) hb
 have hb1:=congrArg (·[1]?) hb
 simp[List.getElem?_take,List.getElem?_drop]at hb0 hb1
 refine⟨⟨a,b,c⟩,ZiL hl fun i hi=>?_⟩
 match i,hi with
 | 0,_=>exact ha
 | 1,_=>exact hb0
 | 2,_=>exact hb1
theorem pt_trod (h:DataW.trod enc Tryz.prog W base sp held fuel 59 cs=some y):∃ x:SPt,cs=Enc.enc x:=by
 obtain⟨xs,n,rfl,_,hl,hx,hf⟩:=DataW.trod_struct Tryz.underlying59 h
 rw[ZoL]at hl
 obtain⟨y0,h0⟩:=ZaY (xs:=xs) (i:=0) (by rw[hx];decide)
 obtain⟨y1,h1⟩:=ZaY (xs:=xs) (i:=1) (by rw[hx];decide)
 obtain⟨y2,h2⟩:=ZaY (xs:=xs) (i:=2) (by rw[hx];decide)
 have f0:DataW.trod enc Tryz.prog W base sp held n 49 ((cs.drop 0).take (Tryz.prog.cellsOf 49))=xs[0]?:=hf 0 _ rfl
 have f1:DataW.trod enc Tryz.prog W base sp held n 49 ((cs.drop 2).take (Tryz.prog.cellsOf 49))=xs[1]?:=hf 1 _ rfl
 have f2:DataW.trod enc Tryz.prog W base sp held n 3 ((cs.drop 4).take (Tryz.prog.cellsOf 3))=xs[2]?:=hf 2 _ rfl
 rw[h0]at f0
 rw[h1]at f1
 rw[h2]at f2
 obtain⟨a,b,ha⟩:=Zie f0
 obtain⟨c,d,hb⟩:=Zie f1
 obtain⟨e,hc⟩:=ZhR f2
 rw[ZkQ]at ha hb
 rw[ZlP]at hc
 have hc:=cut2 hc
 have ha0:=congrArg (·[0]?) ha
 have ha1:=congrArg (·[1]?) ha
 have hb0:=congrArg (·[0]?) hb
 have hb1:=congrArg (·[1]?) hb
 simp[List.getElem?_take,List.getElem?_drop]at ha0 ha1 hb0 hb1
 refine⟨⟨a,b,c,d,e⟩,ZiL hl fun i hi=>?_⟩
 match i,hi with
 | 0,_=>exact ha0
 | 1,_=>exact ha1
 | 2,_=>exact hb0
 | 3,_=>exact hb1
 | 4,_=>exact hc
theorem Znh {α:Type}[Enc α]{t e:TypeId}(ht:Tryz.prog.underlying t=some (.slice e))(hc:Tryz.prog.cellsOf e=Enc.sz α)(hpos:0<Enc.sz α)
  (hel:∀ {n:Nat} {cs:List Value} {y:DataW H×List MemPlace},DataW.trod enc Tryz.prog W base sp held n e cs=some y->∃ x:α,cs=Enc.enc x)
  (h:DataW.trod enc Tryz.prog W base sp held fuel t cs=some y):∃ v,cs=[v]∧∃ l:List α,SlAt (roW W) v l:=by
 rcases DataW.trod_slice ht h with ⟨rfl,_⟩ | ⟨a,len,cap,elems,rest,n,_,rfl,_,_,hl,_,hlen,hE,_⟩
 ·exact⟨_,rfl,[],.nil _⟩
 have hx:∀ i,i<len->∃ x:α,W.cells? base (a.add (i * Enc.sz α)) (Enc.sz α)=some (Enc.enc x):=by
  intro i hi
  obtain⟨y,hy⟩:=ZaY (xs:=elems) (i:=i) (by omega)
  have:=hE i hi
  rw[hy,hc,Option.bind_eq_some_iff]at this
  obtain⟨c,h1,h2⟩:=this
  obtain⟨x,rfl⟩:=hel h2
  exact⟨x,h1⟩
 let l:List α:=List.ofFn fun i:Fin len=>(hx i.1 i.2).choose
 have hll:l.length=len:=by simp[l]
 have hg:∀ i (hi:i<l.length),W.cells? base (a.add (i * Enc.sz α)) (Enc.sz α)=some (Enc.enc l[i]):=by
  intro i hi
  have:=(hx i (by omega)).choose_spec
  simpa[l]using this
 refine⟨_,rfl,l,some a,cap,by rw[hll],fun hne=>⟨a,rfl,?_⟩⟩
 have hcell:∀ i (hi:i<l.length),∀ j,j<Enc.sz α->W.cell? ((a.add (i * Enc.sz α)).add j)=(Enc.enc l[i])[j]?:=fun i hi=>(World.cells?_some (hg i hi)).2.2
 have hpos':0<l.length:=List.length_pos_iff.2 hne
 have hsp:a.spot=none∧∃ o,W.heap[a.block]? = some o:=by
  have h0:=hcell 0 hpos' 0 hpos
  have:((Enc.enc l[0])[0]? : Option Value)=some ((Enc.enc l[0])[0]'(by rw[Enc.len];exact hpos)):=List.getElem?_eq_getElem _
  rw[this]at h0
  obtain⟨s1,o,s2,_⟩:=Zcx h0
  have e0:(a.add (0 * Enc.sz α)).add 0=a:=by simp[Addr.add]
  rw[e0]at s1 s2
  exact⟨s1,o,s2⟩
 obtain⟨hs,o,ho⟩:=hsp
 refine⟨hs,o,false,by rw[Zk9,ho];rfl,fun j hj=>?_⟩
 rw[ZbJ]at hj
 have hi:j / Enc.sz α<l.length:=(Nat.div_lt_iff_lt_mul hpos).2 hj
 have hm:j % Enc.sz α<Enc.sz α:=Nat.mod_lt _ hpos
 have hjj:j=j / Enc.sz α * Enc.sz α+j % Enc.sz α:=(Nat.div_add_mod' j _).symm
 have hv:(Enc.enc l[j / Enc.sz α])[j % Enc.sz α]? = some ((Enc.enc l[j / Enc.sz α])[j % Enc.sz α]'(by rw[Enc.len];exact hm)):=List.getElem?_eq_getElem _
 have hc2:=hcell _ hi _ hm
 rw[hv]at hc2
 obtain⟨_,o',s2,s3⟩:=Zcx hc2
 rw[ZbY,ZbY,ho]at s2
 obtain rfl:=Option.some.inj s2
 rw[Zdj,Zdj,Nat.add_assoc,<-hjj]at s3
 have e9:=ZkL l _ _ hi hm
 rw[<-hjj]at e9
 rw[s3,e9,hv]
theorem bk_trod (h:DataW.trod enc Tryz.prog W base sp held fuel 25 cs=some y):∃ b,BkAt (roW W) (.agg cs.toArray) b:=by
 obtain⟨xs,n,rfl,_,hl,hx,hf⟩:=DataW.trod_struct Tryz.underlying25 h
 rw[cells25]at hl
 obtain⟨y0,h0⟩:=ZaY (xs:=xs) (i:=0) (by rw[hx];decide)
 obtain⟨y1,h1⟩:=ZaY (xs:=xs) (i:=1) (by rw[hx];decide)
 obtain⟨y2,h2⟩:=ZaY (xs:=xs) (i:=2) (by rw[hx];decide)
 obtain⟨y3,h3⟩:=ZaY (xs:=xs) (i:=3) (by rw[hx];decide)
 have f0:DataW.trod enc Tryz.prog W base sp held n 3 ((cs.drop 0).take (Tryz.prog.cellsOf 3))=xs[0]?:=hf 0 _ rfl
 have f1:DataW.trod enc Tryz.prog W base sp held n 3 ((cs.drop 1).take (Tryz.prog.cellsOf 3))=xs[1]?:=hf 1 _ rfl
 have f2:DataW.trod enc Tryz.prog W base sp held n 22 ((cs.drop 2).take (Tryz.prog.cellsOf 22))=xs[2]?:=hf 2 _ rfl
 have f3:DataW.trod enc Tryz.prog W base sp held n 23 ((cs.drop 3).take (Tryz.prog.cellsOf 23))=xs[3]?:=hf 3 _ rfl
 rw[h0]at f0
 rw[h1]at f1
 rw[h2]at f2
 rw[h3]at f3
 obtain⟨a,ha⟩:=ZhR f0
 obtain⟨b,hb⟩:=ZhR f1
 obtain⟨pv,hp,pl,hpl⟩:=Znh (α:=SPt) Tryz.underlying22 ZoL (by decide) (fun h=>pt_trod h) f2
 obtain⟨cv,hc,cl,hcl⟩:=Znh (α:=SCk) Tryz.underlying23 ZoM (by decide) (fun h=>ZoH h) f3
 rw[ZlP]at ha hb
 rw[cells22]at hp
 rw[cells23]at hc
 have ha:=cut2 ha
 have hb:=cut2 hb
 have hp:=cut2 hp
 have hc:=cut2 hc
 refine⟨⟨a,b,pl,cl⟩,pv,cv,?_,hpl,hcl⟩
 have:cs=[vi a,vi b,pv,cv]:=ZiL hl fun i hi=>by
  match i,hi with
  | 0,_=>exact ha
  | 1,_=>exact hb
  | 2,_=>exact hp
  | 3,_=>exact hc
 rw[this]
set_option maxRecDepth 100000 in
theorem bk_open {r:Reach}{b0:Nat}{v:Value}{d:DataW H}{ps:List MemPlace}(hval:Value.okWide Tryz.prog W r b0 25 v)(hd:DataW.Trod enc Tryz.prog W base sp held 25 v d ps):∃ b,BkAt (roW W) v b:=by
 obtain⟨fuel,hf⟩:=hd
 obtain⟨c,rfl⟩:=Zdd Tryz.underlying25 hval
 have:=bk_trod hf
 simpa[Value.cells]using this
end
set_option maxRecDepth 100000 in
theorem Zoq {W:World}(h:laidMetH Tryz.prog [("ribband/spile.checks",Rows.laid_ribband_spile_checks)] W):Zba (roW W):=by
 obtain⟨g,t,cs,fuel,p,hg,ht,hv,hd⟩:=h.funcs (List.mem_singleton.2 rfl)
 obtain rfl:=Option.some.inj (gChecks.symm.trans hg)
 obtain rfl:=Option.some.inj (tChecks.symm.trans ht)
 obtain⟨xs,n,rfl,hx,hl,hn,hE⟩:=DataW.trod_array Tryz.underlying178 hd
 rw[cells178]at hl
 have e0:=hE 0 (by decide)
 have e1:=hE 1 (by decide)
 have e2:=hE 2 (by decide)
 rw[cells177]at e0 e1 e2
 obtain⟨x0,x1,x2,rfl⟩:∃ a b c,xs=[a,b,c]:=by
  match xs,hn with
  | [a,b,c],_=>exact⟨a,b,c,rfl⟩
 obtain⟨c0,c1,c2,hcs⟩:∃ a b c,cs.toList=[a,b,c]:=by
  match h:cs.toList,hl with
  | [a,b,c],_=>exact⟨a,b,c,rfl⟩
 rw[hcs]at e0 e1 e2
 have hx1:DataW.agg [.held [40,114,105,98,98,97,110,100,47,115,112,105,108,101,46,98,111,111,107,41,46,99,111,109,112,97,115,115],.held [40,114,105,98,98,97,110,100,47,115,112,105,108,101,46,98,111,111,107,41,46,112,111,105,110,116,115],.held [40,114,105,98,98,97,110,100,47,115,112,105,108,101,46,98,111,111,107,41,46,99,104,101,99,107,101,100]]=DataW.agg [x0.1,x1.1,x2.1]:=(Prod.mk.inj hx).1
 simp only[DataW.agg.injEq,List.cons.injEq,and_true]at hx1
 obtain⟨k0,k1,k2⟩:=hx1
 obtain⟨y0,z0⟩:=x0
 obtain⟨y1,z1⟩:=x1
 obtain⟨y2,z2⟩:=x2
 dsimp only at k0 k1 k2
 subst k0 k1 k2
 obtain rfl:=Go.func_of_trod (f0:=232) Tryz.underlying177 (by kernel_rfl) e0
 obtain rfl:=Go.func_of_trod (f0:=233) Tryz.underlying177 (by kernel_rfl) e1
 obtain rfl:=Go.func_of_trod (f0:=234) Tryz.underlying177 (by kernel_rfl) e2
 have hcs':cs=#[vf 232,vf 233,vf 234]:=by rw[<-Array.toArray_toList (xs:=cs),hcs]
 subst hcs'
 have h0:=World.var?_cell hg hv
 obtain⟨_,o,ho,_⟩:=Zcx (h0 0)
 refine⟨rfl,o,false,by rw[Zk9];rw[ho];rfl,fun j hj=>?_⟩
 match j,hj with
 | 0,_=>obtain⟨_,o',ho',hc⟩:=Zcx (h0 0);rw[ho]at ho';obtain rfl:=Option.some.inj ho';exact hc
 | 1,_=>obtain⟨_,o',ho',hc⟩:=Zcx (h0 1);rw[ho]at ho';obtain rfl:=Option.some.inj ho';exact hc
 | 2,_=>obtain⟨_,o',ho',hc⟩:=Zcx (h0 2);rw[ho]at ho';obtain rfl:=Option.some.inj ho';exact hc
end Go.Proofs
end
section
open Go Go.LL Go.Conc Go.ConcM
namespace Go.Proofs
open YtamdhefhhdgjbaaGreatDoor
open Go.ChangeShapes Go.WideShapes Go.ChangeAt Go.RowKit
theorem ZgR (Lk:Looks){p:Pinned}{s:OpenSpec}{c:OpenClaim}(kinds:List LaidKind)(tests:Bool)(har:Bool×String)(lk:Bool)
  (hc:c.holds p s) (hw:c.wfByText s=true) (htie:c.laidByTextAt Lk p kinds tests)
  (hst:c.start=.entering) (hnb:c.noBlocks=false∧c.again=false) (hm:p.checked.prog.mainIs=some (har.1,har.2.toList)) (hn:(!har.1 && har.2.isEmpty && !lk)=false)
  (hl:∀ f fn,p.checked.prog.funcNamed c.func=some f->p.checked.prog.funcs[f]? = some fn->lk=p.checked.prog.looks []∧∀ (j:Nat) t,fn.params[j]? = some t->p.checked.prog.wantsStandIn t=false)
  (hg:true=c.goesBy p.checked.prog) :
  Claim7.holds p (.plain s) { stood:={ row:=c,standIns:=[],harness:=har,looks:=lk },kinds:=[],alts:=[],goes:=true,laidByText:=true,laidKinds:=kinds,laidTests:=tests,laidLooks:=Lk }:=by
 have h6:∀ r:OpenClaim,Claim7.isSixth { stood:={ row:=r,standIns:=[],harness:=har,looks:=lk },kinds:=[] }=false:=fun r=>by simpa[Claim7.isSixth]using hn
 refine⟨Claim7.tied_new_at Lk kinds tests (Claim7.new_of_sixth hc har lk hst hnb hm (h6 c) hl) hw,fun D hD=>?_,htie,(fun h=>by cases h),hg⟩
 simp at hD
section
variable  {H:Type}{enc:TypeId×Value->H}
theorem ZeL {P:Program}(hl:laidOutB P=true){W W':World}(hb:Below W.heap.size W W'):∀ {ts:List TypeId} {vs:List Value} {ds:List (DataW H)} {ps:List MemPlace},(∀ t∈ts,P.readableRec t=true∧t<P.types.size) ->
  DataW.TrodAll enc P W 0 (fun _=>true) true ts vs ds ps->(∀ x∈ps,x.block<W.heap.size)->DataW.TrodAll enc P W' 0 (fun b=>decide (b<W.heap.size)) true ts vs ds ps
 | [],[],[],_,_,h,_=>h
 | t :: ts,v :: vs,d :: ds,ps,hr,h,hlt=>by
  obtain⟨p,q,h1,h2,rfl⟩:=h
  have ht:=hr t (by simp)
  exact⟨p,q,hb.trod hl ht.1 ht.2 h1 (fun x hx=>hlt x (by simp[hx])),ZeL hl hb (fun t ht=>hr t (by simp[ht])) h2 (fun x hx=>hlt x (by simp[hx])),rfl⟩
 | [],_ :: _,_,_,_,h,_=>by simp[DataW.TrodAll]at h
 | [],[],_ :: _,_,_,h,_=>by simp[DataW.TrodAll]at h
 | _ :: _,[],_,_,_,h,_=>by simp[DataW.TrodAll]at h
 | _ :: _,_ :: _,[],_,_,h,_=>by simp[DataW.TrodAll]at h
theorem Zgk {P:Program}{W:World}{base:Nat}{sp:Nat->Bool}{held:Bool}:∀ {ts:List TypeId} {vs:List Value} {ds:List (DataW H)} {ps:List MemPlace},DataW.TrodAll enc P W base sp held ts vs ds ps->ds.length=ts.length
 | [],[],[],_,_=>rfl
 | t :: ts,v :: vs,d :: ds,ps,h=>by
  obtain⟨p,q,h1,h2,rfl⟩:=h
  simp[Zgk h2]
 | [],_ :: _,_,_,h=>by simp[DataW.TrodAll]at h
 | [],[],_ :: _,_,h=>by simp[DataW.TrodAll]at h
 | _ :: _,[],_,_,h=>by simp[DataW.TrodAll]at h
 | _ :: _,_ :: _,[],_,h=>by simp[DataW.TrodAll]at h
set_option maxRecDepth 100000 in
theorem Zmo {f:FuncId}{fn:Func}{t:Nat}{s:ChangeSpec}(os:Os)(started:os.Started)(F:Stop.Interp)(hvars:s.vars=[])
  (hfn:Tryz.prog.funcs[f]? = some fn) (hres:fn.results=#[.tmp t]) (hrt:fn.resultTypes=#[4]) (hin:Tryz.prog.inits.idxOf? f=none)
  (hs:∀ ds:List (DataW H),ds.length=fn.params.toList.length->s.fn H ds={ results:=[.lit (.bool true)],args:=ds })
  (hpar:∀ t∈fn.params.toList,Tryz.prog.readableRec t=true∧t<Tryz.prog.types.size)
  (hwalk:∀ (W:World) (base:Nat) (args:Array Value) (ds:List (DataW H)) (p:List MemPlace),(∀ (j:Nat) t v,fn.params[j]? = some t->args[j]? = some v->Value.okWide Tryz.prog W .any base t v) ->
   DataW.TrodAll enc Tryz.prog W 0 (fun _=>true) true fn.params.toList args.toList ds p->Zba (roW W)->LL.Reach PP (TopG Tryz.prog f fn t (vb true)) (Frame.enter Tryz.prog f args .normal) [] (roW W))
  (args0:Array Value)
  (hok:Input.okWideB Tryz.prog ((World.doorLaid Tryz.prog 600 os).forCall (fun _ _=>0) ⟨#[],args0,[]⟩) f ⟨#[],args0,[]⟩=true)
  (hpre:s.preB enc Tryz.prog fn [] false ((World.doorLaid Tryz.prog 600 os).forCall (fun _ _=>0) ⟨#[],args0,[]⟩).memory args0 8=true)
  (hsz:s.sizedB enc Tryz.prog fn false ((World.doorLaid Tryz.prog 600 os).forCall (fun _ _=>0) ⟨#[],args0,[]⟩).memory args0 8=true) :
  ReturnsInLeavingWide { calm:=true } Tryz.checked os f .any (fun w args=>(s.pre enc Tryz.prog fn [] false w args∧laidMetH Tryz.prog [("ribband/spile.checks",Rows.laid_ribband_spile_checks)] w)∧sizedMet enc Tryz.prog fn (OpenSpec.ofChange s) false w args)
   ((OpenSpec.ofChange s).postWith enc Tryz.prog fn F (outsideKept [.timePasses]) false true false):=by
 refine ZkC (C:=Tryz.checked) (X:=fun w _=>laidMetH Tryz.prog [("ribband/spile.checks",Rows.laid_ribband_spile_checks)] w) (fun _ _ _ hh h=>h.of_heap hh) tzOwn started hfn
  (Zgh (enc:=enc) (C:=Tryz.checked) (os:=os) (X:=fun w _=>laidMetH Tryz.prog [("ribband/spile.checks",Rows.laid_ribband_spile_checks)] w) (World.doorLaid Tryz.prog 600 os) args0 8 rfl (wShaped os args0) hok hpre hsz (doorMet os args0)) ?_
 intro W base args ds gs before hval0 hW0 hL
 have hW:DataW.Whole enc Tryz.prog fn.params.toList s.vars false W args.toList ds gs before:=hW0
 have hval:∀ (j:Nat) t v,fn.params[j]? = some t->args[j]? = some v->Value.okWide Tryz.prog W .any base t v:=hval0
 have hW':=hW
 obtain⟨p,q,hA,hV,rfl,_,_⟩:=hW
 rw[hvars]at hV
 obtain⟨rfl,rfl⟩:=trodVars_none hV
 obtain⟨M,last,o,w',t',r1,r2,r3,v,e,hp,g1,g2,g3,g4⟩:=run_top hin (hwalk W base args ds p hval hA (Zoq hL))
 refine⟨M,last,o,w',t',r1,r2,r3,v,e,⟨?_,hp.2.os⟩,g1,g2,g3,g4⟩
 obtain⟨rfl,hk⟩:=hp
 have hbel:Below W.heap.size W { w' with os:=W.os }:=⟨rfl,hk.tape,hk.out,hk.size,hk.heap⟩
 have hlt:∀ x∈p++[],x.block<W.heap.size:=fun x hx=>hW'.lt x hx
 rw[List.append_nil]at hlt
 have hse:=hs ds (Zgk hA)
 have hall:=ZeL Zm7 hbel hpar hA hlt
 refine⟨ds,[],p++[],[],p,[],hW',?_,?_,?_,hbel.frame _,fun h=>by cases h⟩
 ·rw[List.append_nil,hse,hrt]
  exact trodAll_mk1 (shut_bool Tryz.underlying4 _)
 ·rw[List.append_nil,hse]
  exact hall
 ·rw[hvars,List.append_nil,hse]
  rfl
end
end Go.Proofs
end
section
open Go Go.LL
namespace Go.Proofs
structure U16 where
 n:Int
 lo:0<=n
 hi:n<65536
instance:Enc U16:=⟨1,fun u=>[.int .u16 u.n],fun _=>rfl⟩
end Go.Proofs
end
section
open Go Go.LL Go.Conc Go.ConcM
namespace Go.Proofs
open YtamdhefhhdgjbaaGreatDoor Go.ChangeShapes Go.WideShapes
section
set_option maxRecDepth 100000
variable  {H:Type}{enc:TypeId×Value->H}{W:World}{base:Nat}{sp:Nat->Bool}{held:Bool}{fuel:Nat}{cs:List Value}{y:DataW H×List MemPlace}{r:Reach}{b0:Nat}{v:Value}{d:DataW H}{ps:List MemPlace}
theorem ZlC (hval:Value.okWide Tryz.prog W r b0 3 v)(hd:DataW.Trod enc Tryz.prog W base sp held 3 v d ps):∃ n,v=vi n:=by
 obtain⟨n,rfl,_⟩:=open_int Tryz.underlying3 hval hd
 exact⟨n,rfl⟩
theorem ZmC (hval:Value.okWide Tryz.prog W r b0 51 v)(hd:DataW.Trod enc Tryz.prog W base sp held 51 v d ps):∃ c:SCk,v=.agg #[vi c.p,vi c.gl,vi c.gh]:=by
 obtain⟨fuel,hf⟩:=hd
 obtain⟨c,rfl⟩:=Zdd Tryz.underlying51 hval
 obtain⟨x,hx⟩:=ZoH hf
 obtain⟨c⟩:=c
 exact⟨x,by simpa[Value.cells,Enc.enc]using hx⟩
theorem Znd (hval:Value.okWide Tryz.prog W r b0 49 v)(hd:DataW.Trod enc Tryz.prog W base sp held 49 v d ps):∃ a b,v=.agg #[vi a,vi b]:=by
 obtain⟨fuel,hf⟩:=hd
 obtain⟨c,rfl⟩:=Zdd Tryz.underlying49 hval
 obtain⟨a,b,hx⟩:=Zie hf
 obtain⟨c⟩:=c
 exact⟨a,b,by simpa[Value.cells]using hx⟩
end
end Go.Proofs
end
