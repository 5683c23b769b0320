import Derived.Test.YthmnpenamnoniaaGreatDoorP27
set_option linter.all false
section
open Go Go.LL
namespace Go.Proofs
def spf (p:Program)(t:TypeId):Option (List (String×TypeId×Nat)×Bool):=match p.underlying t with | some (.struct fs)=>some (fs.toList.map (fun f=>(f.name,f.type,f.offset)),p.stoodInHeld t) | _=>none
theorem spf2 {p:Program}{t:TypeId}{n1 n2:String}{t1 t2 o1 o2:Nat}{b:Bool}(h:spf p t=some ([(n1,t1,o1),(n2,t2,o2)],b)):∃ f1 f2:Field,p.underlying t=some (.struct #[f1,f2])∧(f1.name=n1∧f1.type=t1∧f1.offset=o1)∧(f2.name=n2∧f2.type=t2∧f2.offset=o2)∧p.stoodInHeld t=b:=by
 unfold spf at h
 split at h
 ·rename_i fs hu
  obtain⟨fs⟩:=fs
  simp only[Option.some.injEq,Prod.mk.injEq]at h
  obtain⟨h,h2⟩:=h
  match fs,h with
  | [f1,f2],h=>
   simp only[List.map_cons,List.map_nil,List.cons.injEq,Prod.mk.injEq]at h
   exact⟨f1,f2,hu,h.1,h.2.1,h2⟩
 ·simp at h
theorem s70:spf Tryz.prog 31=some ([("Before",3,0),("By",3,1)],false):=by kernel_rfl
theorem s49:spf Tryz.prog 56=some ([("Low",3,0),("High",3,1)],false):=by kernel_rfl
theorem ui3:Tryz.prog.underlying 3=some (.int .i64):=by kernel_rfl
section
variable  {P:Prg}[Tz P]{H:Hp}{g:Bool}{d:Nat}
theorem Zgx {cs:Array Value}{off:Nat}{v:Value}(h:cs[off]? = some v)(Q:Value->Bool->Hp->Prop):wpL P.toPQ (part 3 cs off) Q g H↔Q v g H:=by
 simp only[part,Zaa,ZbL (agf (P:=P) a3),Bool.false_eq_true,if_false,h,Zac]
theorem eq3 {a b:Int}(Q:Bool->Bool->Hp->Prop):wpL P.toPQ (Op.equalIn (d+1) 3 (vi a) (vi b)) Q g H↔Q (decide (a=b)) g H:=by
 simp only[Op.equalIn,Zaa,Zad (und (P:=P) ui3),if_true,Zac]
 have:(a == b)=decide (a=b):=by rw[Bool.eq_iff_iff];simp
 rw[this]
theorem eqP {t:TypeId}(hs:spf Tryz.prog t=some ([("Before",3,0),("By",3,1)],false)∨spf Tryz.prog t=some ([("Low",3,0),("High",3,1)],false)){a b c e:Int}(Q:Bool->Bool->Hp->Prop)(hq:Q (decide (a=c∧b=e)) g H):wpL P.toPQ (Op.equalIn (d+1+1) t (.agg #[vi a,vi b]) (.agg #[vi c,vi e])) Q g H:=by
 have p1:∀ (x y:Int) (Q:Value->Bool->Hp->Prop) g H,wpL P.toPQ (part 3 #[vi x,vi y] 0) Q g H↔Q (vi x) g H:=fun x y Q g H=>Zgx rfl Q
 have p2:∀ (x y:Int) (Q:Value->Bool->Hp->Prop) g H,wpL P.toPQ (part 3 #[vi x,vi y] 1) Q g H↔Q (vi y) g H:=fun x y Q g H=>Zgx rfl Q
 rcases hs with hs | hs
 all_goals
  obtain⟨f1,f2,hu,⟨n1,t1,o1⟩,⟨n2,t2,o2⟩,hs⟩:=spf2 (p:=P.toProgram) (by rw[Tz.prog (P:=P)];exact hs)
  rw[Op.equalIn]
  simp only[Zaa,Zad hu,ZaU,hs,Bool.false_eq_true,if_false,Zac]
  simp only[n1,n2,t1,t2,o1,o2,Zaa,List.forIn_toArray,List.forIn_cons,List.forIn_nil]
  by_cases h1:a=c<;>by_cases h2:b=e<;>simp[p1,p2,eq3,Zaa,Zac,h1,h2]at hq ⊢<;>exact hq
def n4Eq (a b:N4):Bool:=decide (a.a=b.a∧a.b=b.b∧a.c=b.c∧a.d=b.d)
theorem eq119 {a b:N4}(Q:Bool->Bool->Hp->Prop)(hq:Q (n4Eq a b) g H):wpL P.toPQ (Op.equalIn (d+1+1) 115 (numV a) (numV b)) Q g H:=by
 have p1:∀ (x y z u:Int) (Q:Value->Bool->Hp->Prop) g H,wpL P.toPQ (part 3 #[vi x,vi y,vi z,vi u] 0) Q g H↔Q (vi x) g H:=fun x y z u Q g H=>Zgx rfl Q
 have p2:∀ (x y z u:Int) (Q:Value->Bool->Hp->Prop) g H,wpL P.toPQ (part 3 #[vi x,vi y,vi z,vi u] 1) Q g H↔Q (vi y) g H:=fun x y z u Q g H=>Zgx rfl Q
 have p3:∀ (x y z u:Int) (Q:Value->Bool->Hp->Prop) g H,wpL P.toPQ (part 3 #[vi x,vi y,vi z,vi u] 2) Q g H↔Q (vi z) g H:=fun x y z u Q g H=>Zgx rfl Q
 have p4:∀ (x y z u:Int) (Q:Value->Bool->Hp->Prop) g H,wpL P.toPQ (part 3 #[vi x,vi y,vi z,vi u] 3) Q g H↔Q (vi u) g H:=fun x y z u Q g H=>Zgx rfl Q
 obtain⟨inf,i1,i2,i3,i4⟩:=(tif (P:=P) t3).ex
 rw[Op.equalIn]
 simp only[numV,Zaa,Zad (und (P:=P) u119),Zap i1,i2,Zac]
 unfold n4Eq at hq
 have hr:List.range' 0 4=[0,1,2,3]:=rfl
 simp only[Std.Legacy.Range.forIn_eq_forIn_range',Std.Legacy.Range.size,Nat.sub_zero,Nat.add_sub_cancel,Nat.div_one,hr,List.forIn_cons,List.forIn_nil,Zaa]
 by_cases h1:a.a=b.a<;>by_cases h2:a.b=b.b<;>by_cases h3:a.c=b.c<;>by_cases h4:a.d=b.d<;>simp[p1,p2,p3,p4,eq3,Zaa,Zac,h1,h2,h3,h4]at hq ⊢<;>exact hq
end
theorem qLsL0 {G:Prop} (h:G:=by
  rw[this]
  refine Zgw fun Q g H hq=>?_
  have hg':P.toProgram.eqGuardType P.toProgram.depth t=false:=by rw[Tz.prog (P:=P)];exact hg
  rw[Zaa]
  unfold eqGuard
  simp only[Zaa,Zac,Bool.not_true,Bool.false_eq_true,if_false]
  rw[ZaU,ZaU,hg']
  simp only[Bool.not_false,if_true,Zac]
  exact Zaa.2 (hE _ _ _ hq)):G:=h
def eqGB (p:Program)(t:TypeId):Bool:=p.eqGuardType p.depth t
theorem g70:eqGB Tryz.prog 31=false:=by kernel_rfl
theorem g49:eqGB Tryz.prog 56=false:=by kernel_rfl
section
variable  {P:Prg}[Tz P]{H:Hp}{d:Option Nat}{next:NSt->Hp->Prop}{σ:NSt}{x y:Operand}{ty t2:TypeId}{v:Value}
theorem om_eqS {t:TypeId}{xs ys:Array Value}{b:Bool}(hg:eqGB Tryz.prog t=false)(hE:∀ (Q:Bool->Bool->Hp->Prop) (g:Bool) (H:Hp),Q b g H->wpL P.toPQ (Op.equalIn (9998+1+1) t (.agg xs) (.agg ys)) Q g H)(e1:σ.get x=some (.agg xs))(e2:σ.get y=some (.agg ys))(h:next (σ.set d (vb b)) H) :
  (NOp.pur (.binOp .eql t x y t2) ty).m P d next σ H:=by
 refine Zb9 (by simp[Op.operands,e1,e2]) ?_ h
 have:execOp (fun x=>(σ.get x).getD undef) (bare (.binOp .eql t x y t2) ty)=(do let v <-(do eqGuard .eql t x y (.agg xs) (.agg ys);binOp .eql t (.agg xs) (.agg ys));pure (.value v)):=by simp[execOp,bare,e1,e2]
 exact qLsL0
theorem Zl4 {t:TypeId}{xs ys:Array Value}{b:Bool}(hg:eqGB Tryz.prog t=false)(hE:∀ (Q:Bool->Bool->Hp->Prop) (g:Bool) (H:Hp),Q b g H->wpL P.toPQ (Op.equalIn (9998+1+1) t (.agg xs) (.agg ys)) Q g H)(e1:σ.get x=some (.agg xs))(e2:σ.get y=some (.agg ys))(h:next (σ.set d (vb !b)) H) :
  (NOp.pur (.binOp .neq t x y t2) ty).m P d next σ H:=by
 refine Zb9 (by simp[Op.operands,e1,e2]) ?_ h
 have:execOp (fun x=>(σ.get x).getD undef) (bare (.binOp .neq t x y t2) ty)=(do let v <-(do eqGuard .neq t x y (.agg xs) (.agg ys);binOp .neq t (.agg xs) (.agg ys));pure (.value v)):=by simp[execOp,bare,e1,e2]
 exact qLsL0
theorem Zis {t e:TypeId}{len sz by_ hi:Nat}{zv:Value}{a:Addr}{k:IntKind}{hx:Option Operand}(hu:P.toProgram.underlying t=some (.array len e))(ti:TI P.toProgram e sz zv by_)(hlen:0<len)(e1:σ.get x=some (.pointer (some a)))(e3:(hx=none∧hi=len)∨∃ z,hx=some z∧σ.get z=some (.int k (hi:Int)))(hhi:hi<=len)
  (h:next (σ.set d (.slice (some a) hi len)) H):(NOp.pur (.slice t x none hx none) ty).m P d next σ H:=by
 obtain⟨inf,i1,i2,i3,i4⟩:=ti.ex
 have hc2:(0:Int)<=(hi:Int)∧(hi:Int)<=(len:Nat):=⟨by omega,by omega⟩
 have ha:a.add (0 * sz)=a:=by rw[Nat.zero_mul];rfl
 have hne:¬ len=0:=by omega
 rcases e3 with ⟨rfl,rfl⟩ | ⟨z,rfl,e3⟩
 ·refine Zb9 (by simp[Op.operands,e1]) ?_ h
  have:execOp (fun x=>(σ.get x).getD undef) (bare (.slice t x none none none) ty)=(do let v <-Instr.sliceAt t (.pointer (some a)) none none none;pure (.value v)):=by simp[execOp,bare,e1]
  rw[this]
  refine Zgw fun Q g H hq=>?_
  simp only[Instr.sliceAt,Zaa,Zad hu,Instr.sureAddr,Instr.sliceBounds,Zac,Zap i1,i2,ha,if_neg hne,Nat.sub_zero]
  exact hq
 ·refine Zb9 (by simp[Op.operands,e1,e3]) ?_ h
  have:execOp (fun x=>(σ.get x).getD undef) (bare (.slice t x none (some z) none) ty)=(do let v <-Instr.sliceAt t (.pointer (some a)) none (some (.int k (hi:Int))) none;pure (.value v)):=by simp[execOp,bare,e1,e3]
  rw[this]
  refine Zgw fun Q g H hq=>?_
  simp only[Instr.sliceAt,Zaa,Zad hu,Instr.sureAddr,Instr.sliceBounds,Instr.sliceBound,asIntOf,Zac,if_pos hc2,Zap i1,i2,ha,if_neg hne,Nat.sub_zero,Int.toNat_natCast]
  exact hq
theorem om_copy {sT sT' E T E2:TypeId}{by_ r dl dc:Nat}{zv w:Value}{l:List Int}{cs:List Value}(hu:P.toProgram.underlying sT=some (.slice E))(ti:TI P.toProgram E 1 zv by_)(e1:σ.get x=some (.slice (some ⟨r,0,none⟩) dl dc))(e2:σ.get y=some w)(hw:SlAt H w l)(hl:l.length<=dl)(hc:dl=cs.length)(hb:H r=some (.cells cs.toArray E2 (0,0),true))(hst:P.still H.gh=false)
  (h:next (σ.set d (vi l.length)) (H.ins r (.cells (l.map vi++cs.drop l.length).toArray E2))):(NOp.raw (.call { callee:=.builtin .copy,args:=#[x,y],argTypes:=#[sT,sT'] }) T).m P d next σ H:=by
 obtain⟨inf,i1,i2,i3,i4⟩:=ti.ex
 refine Zbe (s:=Builtin.copy_ #[sT,sT'] T #[.slice (some ⟨r,0,none⟩) dl dc,w]) (by simp[Op.operands,Call.operands,e1,e2]) (by simp[execOp,bare,resolve,invoke,builtin,e1,e2]) ?_
 obtain⟨A,c,rfl,hh⟩:=hw
 have hmin:Nat.min l.length dl=l.length:=Nat.min_eq_left hl
 simp only[Builtin.copy_,List.getElem?_toArray,List.getElem?_cons_zero,List.getElem?_cons_succ,Zaa,Zad hu,Builtin.lenOf,Zac,hmin,Zap i1,i2]
 have hfirst:∀ (Q:Array Value->Bool->Hp->Prop),Q (l.map vi).toArray false H->wpL P.toPQ (Builtin.firstCells 1 l.length (.slice A l.length c)) Q false H:=by
  intro Q hq
  by_cases hn:l=[]
  ·subst hn
   cases A<;>simpa[Builtin.firstCells,Zac,loadCells,loadCellsFrom]using hq
  ·obtain⟨a,rfl,hca⟩:=hh hn
   rw[Zbz]at hca
   simp only[Builtin.firstCells]
   exact ZdP hst hca hq (by simp)
 refine hfirst _ ?_
 refine Zbt _ _ (l.map vi) 0 0 cs H hst hb (by simp[Value.isOne]) (by simp;omega) ?_
 simpa[goInt]using h
end
theorem Zbb {H:Hp}{r:Nat}{o o':Obj}:(H.ins r o).ins r o'=H.ins r o':=by
 refine Hp.ext' (fun c=>?_) rfl
 by_cases e:c=r
 ·subst e;rw[Hp.ins_same,Hp.ins_same]
 ·rw[Hp.ins_other _ _ e,Hp.ins_other _ _ e,Hp.ins_other _ _ e]
theorem Zar {H:Hp}{r:Nat}{cs:List Value}{E:TypeId}:CellsAt (H.ins r (.cells cs.toArray E)) ⟨r,0,none⟩ cs:=⟨rfl,_,_,Hp.ins_same _ _ _,fun j hj=>by simp[Obj.at?]⟩
def n4of (l:List Int):N4:=.of fun i=>l.getD i 0
def Zbw (b:Bk)(l:List Int)(lo hi:Int):Int:=if l.length≠b.pts.length then 2 else if l.all (fun n=>decide (lo<=n∧n<=hi)) then 0 else 1
def ZgA (b:Bk)(x:Boat):Bool:=decide (lowF b (Zas b x)<=Zfb b (Zas b x))
def Boat.slipped (x:Boat):Bool:=!decide (x.bf=0∧x.by_=0)
section
variable  {P:Prg}[Tz P]{H:Hp}
set_option maxHeartbeats 400000
theorem one1_ok (n lo hi:Int){r1 r2:Nat}(h1:CellsAt H ⟨r1,0,none⟩ [vi lo])(h2:CellsAt H ⟨r2,0,none⟩ [vi hi])(hst:P.still H.gh=false):LL.Zag P 154 #[vi n,.pointer (some ⟨r1,0,none⟩),.pointer (some ⟨r2,0,none⟩)] H fun v H'=>H=H'∧v=vb (!decide (lo<=n∧n<=hi)):=by
 refine IsN.m (isn c173) (args:=[vi n,.pointer (some ⟨r1,0,none⟩),.pointer (some ⟨r2,0,none⟩)]) rfl ?_
 unfold n173
 refine wkT ?_
 refine Zaf hst rfl h1 ?_
 refine wkT ?_
 refine Zaf hst rfl h2 ?_
 refine wkT ?_
 refine Zab (vs:=[vi n,vi lo,vi hi]) rfl (Zby _ _ _) ?_
 rintro v _ ⟨rfl,rfl⟩
 refine wkT ?_
 exact⟨rfl,rfl⟩
theorem one_ok {bv v:Value}{b:Bk}{l:List Int}(lo hi:Int)(hb:BkAt H bv b)(hs:SlAt H v l)(hl:l.length<=1000000)(hst:P.still H.gh=false):LL.Zag P 99 #[bv,v,vi lo,vi hi] H fun v H'=>H.Sub H'∧v=vi (Zbw b l lo hi):=by
 obtain⟨pv,cv,rfl,hp,hc⟩:=hb
 refine IsN.m (isn c131) (args:=[.agg #[vi b.op,vi b.sl,pv,cv],v,vi lo,vi hi]) rfl ?_
 unfold n131
 refine wkT ?_
 refine ZbW rfl hst fun r1 hr1=>?_
 refine wkT ?_
 refine ZbW rfl hst fun r2 hr2=>?_
 have hst2:∀ o o',P.still ((H.ins r1 o).ins r2 o').gh=false:=fun _ _=>hst
 have hsub:H.Sub ((H.ins r1 (.cells (vi lo).cells 3)).ins r2 (.cells (vi hi).cells 3)):=(ZaL hr1).trans (ZaL hr2)
 refine wkT ?_
 refine Zau (hs.sub hsub) rfl ?_
 refine wkT ?_
 refine Zau (hp.sub hsub) rfl ?_
 refine wkT ?_
 refine wiT (fun h1=>?_) (fun h1=>?_)
 ·refine wkT ?_
  exact⟨hsub,by rw[Zbw,if_pos (by omega)];rfl⟩
 ·refine wkT ?_
  refine Zci rfl rfl ?_
  refine wkT ?_
  refine Zab (vs:=[v,.func (.func 154) #[] #[.pointer (some ⟨r1,0,none⟩),.pointer (some ⟨r2,0,none⟩)]]) rfl (Zes (f:=fun n=>!decide (lo<=n∧n<=hi)) (l:=l) (fun c hcm=>?_) (hs.sub hsub) hl (hst2 _ _)) ?_
  ·exact ZcY (by kernel_rfl) (one1_ok c lo hi (Zar.inc (Zai hr2)) Zar (hst2 _ _))
  rintro v _ ⟨rfl,rfl⟩
  refine wkT ?_
  have e:(l.any fun n=>!decide (lo<=n∧n<=hi))=!(l.all fun n=>decide (lo<=n∧n<=hi)):=by rw[List.any_eq_not_all_not];simp
  refine wiT (fun h2=>?_) (fun h2=>?_)
  ·refine wkT ?_
   refine⟨hsub,?_⟩
   rw[e]at h2
   rw[Zbw,if_neg (by omega),if_neg (by simpa using h2)]
   rfl
  ·refine wkT ?_
   refine⟨hsub,?_⟩
   rw[e]at h2
   rw[Zbw,if_neg (by omega),if_pos (by simpa using h2)]
   rfl
theorem Zdg {v:Value}{l:List Int}(hs:SlAt H v l)(hl:l.length<=4)(hst:P.still H.gh=false):LL.Zag P 100 #[v] H fun v H'=>H.Sub H'∧v=numV (n4of l):=by
 refine IsN.m (isn c132) (args:=[v]) rfl ?_
 unfold n132
 refine wkT ?_
 refine Zav (tif t119) hst fun r hr=>?_
 have hst1:∀ o,P.still (H.ins r o).gh=false:=fun _=>hst
 refine wkT ?_
 refine Zis (hi:=4) (k:=.i64) (und u119) (tif t3) (by omega) rfl (.inl ⟨rfl,rfl⟩) (by omega) ?_
 refine wkT ?_
 refine om_copy (cs:=[vi 0,vi 0,vi 0,vi 0]) (und u34) (tif t3) rfl rfl (hs.sub (ZaL hr)) hl rfl (Hp.ins_same _ _ _) (hst1 _) ?_
 rw[Zbb]
 have e:l.map vi++[vi 0,vi 0,vi 0,vi 0].drop l.length=(n4of l).cells:=by
  match l,hl with
  | [],_=>rfl
  | [a],_=>rfl
  | [a,b],_=>rfl
  | [a,b,c],_=>rfl
  | [a,b,c,d],_=>rfl
  | a :: b :: c :: d :: e :: l,h=>simp at h
 rw[e]
 refine wkT ?_
 refine Zao (hst1 _) rfl Zar rfl ?_
 refine wkT ?_
 exact⟨ZaL hr,rfl⟩
theorem list_ok {bv:Value}{b:Bk}{n:N4}(hb:BkAt H bv b)(hle:b.pts.length<=4)(h1:1<=b.pts.length)(hst:P.still H.gh=false):LL.Zag P 53 #[bv,numV n] H fun v H'=>H.Sub H'∧∃ bb,Own H H' 3 v (n.list.take b.pts.length) bb:=by
 obtain⟨pv,cv,rfl,hp,hc⟩:=hb
 refine IsN.m (isn c138) (args:=[.agg #[vi b.op,vi b.sl,pv,cv],numV n]) rfl ?_
 unfold n138
 refine wkT ?_
 refine ZbW rfl hst fun r hr=>?_
 have hst1:∀ o,P.still (H.ins r o).gh=false:=fun _=>hst
 refine wkT ?_
 refine Zau (hp.sub (ZaL hr)) rfl ?_
 refine wkT ?_
 refine Zis (hi:=b.pts.length) (k:=.i64) (und u119) (tif t3) (by omega) rfl (.inr ⟨_,rfl,rfl⟩) (by omega) ?_
 refine wkT ?_
 have hlen:(n.list.take b.pts.length).length=b.pts.length:=by simp[N4.list];omega
 have hcl:CellsAt (H.ins r (.cells (numV n).cells 115)) ⟨r,0,none⟩ (encs (n.list.take b.pts.length)):=by
  refine⟨rfl,_,_,Hp.ins_same _ _ _,fun j hj=>?_⟩
  rw[Zbz]at hj ⊢
  simp only[List.length_map,hlen]at hj
  rw[List.getElem?_map,List.getElem?_take,if_pos hj]
  show (#[vi n.a,vi n.b,vi n.c,vi n.d]:Array Value)[0+j]? = Option.map vi [n.a,n.b,n.c,n.d][j]?
  match j,(show j<4 by omega) with
  | 0,_=>rfl
  | 1,_=>rfl
  | 2,_=>rfl
  | 3,_=>rfl
 refine Zab (vs:=[.slice (some ⟨r,0,none⟩) b.pts.length 4]) rfl (ZjH (l:=n.list.take b.pts.length) ⟨_,4,by rw[hlen],fun _=>⟨_,rfl,hcl⟩⟩ (by omega) (hst1 _)) ?_
 rintro v H2 ⟨hs2,h | ⟨bb,h⟩⟩
 ·rw[h.1]at hlen;simp at hlen;omega
 ·refine wkT ?_
  exact⟨(ZaL hr).trans hs2,bb,h.own,fun q e=>by
   have:=h.fresh q e
   cases hh:H q with
   | none=>rfl
   | some y=>rw[(ZaL hr).mem q y hh]at this;simp at this⟩
theorem ZmE {bv:Value}{b:Bk}{x:Boat}(hb:BkAt H bv b)(ok:BkOk b)(okx:BtOk x)(h1:1<=b.pts.length)(okp:PtsOk b)(hg:(Zas b x).Sm)(hst:P.still H.gh=false):LL.Zag P 67 #[bv,ZaH x] H fun v H'=>H.Sub H'∧v=vb (ZgA b x):=by
 have hb0:=hb
 obtain⟨pv,cv,rfl,hp,hc⟩:=hb
 refine IsN.m (isn c103) (args:=[.agg #[vi b.op,vi b.sl,pv,cv],ZaH x]) rfl ?_
 unfold n103
 refine wkT ?_
 refine Zab (vs:=[.agg #[vi b.op,vi b.sl,pv,cv],ZaH x]) rfl (Zdk hb0 ok okx hst) ?_
 rintro v _ ⟨rfl,rfl⟩
 refine wkT ?_
 refine Zab (vs:=[.agg #[vi b.op,vi b.sl,pv,cv],numV (Zas b x)]) rfl (ZdZ hb0 ok.le h1 okp hg hst) ?_
 rintro v H2 ⟨hs2,rfl⟩
 have hst2:P.still H2.gh=false:=by rw[hs2.gh];exact hst
 refine kp_w hs2.gh ?_
 refine wkT ?_
 exact⟨hs2,rfl⟩
theorem ZgG {x:Boat}(hst:P.still H.gh=false):LL.Zag P 91 #[ZaH x] H fun v H'=>H=H'∧v=vb x.slipped:=by
 refine IsN.m (isn c92) (args:=[ZaH x]) rfl ?_
 unfold n92
 refine wkT ?_
 refine Zl4 (xs:=#[vi x.bf,vi x.by_]) (ys:=#[vi 0,vi 0]) g70 (fun Q g H hq=>eqP (.inl s70) Q hq) rfl rfl ?_
 refine wkT ?_
 exact⟨rfl,rfl⟩
theorem whole_ok {bv:Value}(hst:P.still H.gh=false):LL.Zag P 65 #[bv] H fun v H'=>H=H'∧v=vb true:=by
 refine IsN.m (isn c90) (args:=[bv]) rfl ?_
 unfold n90
 refine wkT ?_
 exact⟨rfl,rfl⟩
end
def JG (G:Hp)(A:Hp->Prop)(H:Hp):Prop:=∃ Hc F:Hp,H=Hc.join F∧Hc.Comp F∧Inc G F∧A Hc
theorem JG.up {G:Hp}{A:Hp->Prop}{H:Hp}(hA:Up A)(h:JG G A H):A H:=by
 obtain⟨Hc,F,rfl,h1,_,h3⟩:=h
 exact hA _ _ h1 h3
theorem JG.inc {G:Hp}{A:Hp->Prop}{H:Hp}(h:JG G A H):Inc G H:=by
 obtain⟨Hc,F,rfl,h1,h2,_⟩:=h
 exact fun b x hb=>Hp.join_right h1 (h2 b x hb)
theorem JG.of {G:Hp}{A B:Hp->Prop}{H:Hp}(h:JG G A H)(hB:∀ Hc,A Hc->B Hc){G':Hp}(hG:Inc G' G):JG G' B H:=by
 obtain⟨Hc,F,rfl,h1,h2,h3⟩:=h
 exact⟨Hc,F,rfl,h1,hG.trans h2,hB _ h3⟩
theorem JG.new {G:Hp}{A:Hp->Prop}{H:Hp}(h:JG G A H){r:Nat}(o:Obj)(hr:H r=none):JG (G.ins r o) A (H.ins r o):=by
 obtain⟨Hc,F,rfl,h1,h2,h3⟩:=h
 obtain⟨c1,c2⟩:=Hp.join_none.1 hr
 refine⟨Hc,F.ins r o,(Hp.join_ins c1).symm,⟨fun b x y hx hy=>?_,h1.gh⟩,fun b x hb=>?_,h3⟩
 ·by_cases e:b=r
  ·subst e;rw[c1]at hx;simp at hx
  ·rw[Hp.ins_other _ _ e]at hy;exact h1.mem b x y hx hy
 ·by_cases e:b=r
  ·subst e;rw[Hp.ins_same]at hb ⊢;exact hb
  ·rw[Hp.ins_other _ _ e]at hb ⊢;exact h2 b x hb
theorem JG.put {G:Hp}{A:Hp->Prop}{H:Hp}(h:JG G A H){r:Nat}{o:Obj}(o':Obj)(hr:G r=some (o,true)):JG (G.ins r o') A (H.ins r o'):=by
 obtain⟨Hc,F,rfl,h1,h2,h3⟩:=h
 have c2:=h2 r _ hr
 have c1:Hc r=none:=by
  cases hh:Hc r with
  | none=>rfl
  | some x=>have:=h1.mem r x _ hh c2;rw[this.1]at this;simp at this
 refine⟨Hc,F.ins r o',(Hp.join_ins c1).symm,⟨fun b x y hx hy=>?_,h1.gh⟩,fun b x hb=>?_,h3⟩
 ·by_cases e:b=r
  ·subst e;rw[c1]at hx;simp at hx
  ·rw[Hp.ins_other _ _ e]at hy;exact h1.mem b x y hx hy
 ·by_cases e:b=r
  ·subst e;rw[Hp.ins_same]at hb ⊢;exact hb
  ·rw[Hp.ins_other _ _ e]at hb ⊢;exact h2 b x hb
theorem JG.sub {G:Hp}{A:Hp->Prop}{H H':Hp}(h:JG G A H)(hs:H.Sub H'):JG G A H':=by
 classical
 obtain⟨Hc,F,rfl,h1,h2,h3⟩:=h
 refine⟨Hc,⟨fun b=>if F b=none then (if Hc b=none then H' b else none) else F b,F.gh⟩,Hp.ext' (fun b=>?_) ?_,⟨fun b x y hx hy=>?_,h1.gh⟩,fun b x hb=>?_,h3⟩
 ·show H' b=_
  simp only[Hp.join_at]
  cases hc:Hc b with
  | some x=>exact hs.mem b x (Hp.join_left hc)
  | none=>
   cases hf:F b with
   | none=>simp
   | some y=>simp;exact hs.mem b y (by simp[Hp.join_at,hc,hf])
 ·rw[hs.gh];rfl
 ·have hy:(if F b=none then (if Hc b=none then H' b else none) else F b)=some y:=hy
  rw[hx]at hy
  cases hf:F b with
  | none=>simp[hf]at hy
  | some z=>simp[hf]at hy;subst hy;exact h1.mem b x z hx hf
 ·show (if F b=none then (if Hc b=none then H' b else none) else F b)=some x
  rw[h2 b x hb];simp
theorem JG.call {P:Prg}{y:Value}{args:Array Value}{G:Hp}{A:Hp->Prop}{B:Value->Hp->Prop}{H:Hp}(hy:∀ H,A H->CallV P y args H B)(h:JG G A H):CallV P y args H (fun v H'=>JG G (B v) H'):=by
 obtain⟨Hc,F,rfl,h1,h2,h3⟩:=h
 refine((hy Hc h3).frame h1).mono ?_
 rintro v H' ⟨H'',rfl,h4,h5⟩
 exact⟨H'',F,rfl,h4,h2,h5⟩
theorem JG.closed {G:Hp}{A:Hp->Prop}:Up (JG G A):=by
 rintro H J hc ⟨Hc,F,rfl,h1,h2,h3⟩
 exact⟨Hc,F.join J,Hp.join_assoc _ _ _,h1.join_r hc.of_join_left,h2.trans (ZaX F J),h3⟩
theorem ZjJ {xs rest:List (List Value)}{I:Nat->Hp->Prop}(hI:∀ n,Up (I n)):Up (Seq xs I rest):=by
 rintro H J hc ⟨p,h1,h2,h3⟩
 exact⟨p,h1,h2,hI p H J hc h3⟩
theorem ZbA {H:Hp}{a:Addr}{cs:List Value}(h:CellsAt H a cs){j:Nat}{v:Value}(hj:cs[j]? = some v):CellsAt H (a.add j) [v]:=by
 obtain⟨h1,o,p,h2,h3⟩:=h
 have hl:j<cs.length:=(List.getElem?_eq_some_iff.1 hj).1
 refine⟨Zdp h1 _,o,p,by rw[ZbM];exact h2,fun k hk=>?_⟩
 have:k=0:=by simpa using hk
 subst this
 rw[Zc0,Nat.add_zero,h3 j hl,hj]
 rfl
def spanR (f:Int->List Boat)(hi:Int):Nat->List Boat
 | 0=>[]
 | c+1=>f (hi-c)++spanR f hi c
def ptAt (b:Bk)(i:Nat):SPt:=b.pts.getD i ⟨0,0,0,0,0⟩
def boatsFrom (b:Bk):Nat->N4->List Boat
 | 0,m=>((ZaB b).map fun k=>(⟨m,k.bf,k.by_⟩:Boat)).filter (ZgM b)
 | r+1,m=>spanR (fun v=>boatsFrom b r (m.put (b.pts.length-(r+1)) v)) (ptAt b (b.pts.length-(r+1))).mh ((ptAt b (b.pts.length-(r+1))).mh-(ptAt b (b.pts.length-(r+1))).ml+1).toNat
def Zae (b:Bk):List Boat:=boatsFrom b b.pts.length ⟨0,0,0,0⟩
def Zfe (x:Boat):List Value:=[ZaH x]
theorem t4:tiOf Tryz.prog 4=some (1,some (vb false),1):=by kernel_rfl
theorem t70:tiOf Tryz.prog 31=some (2,some (.agg #[vi 0,vi 0]),16):=by kernel_rfl
theorem t121:tiOf Tryz.prog 117=some (6,some (.agg #[vi 0,vi 0,vi 0,vi 0,vi 0,vi 0]),48):=by kernel_rfl
abbrev pt (r:Nat):Value:=.pointer (some ⟨r,0,none⟩)
structure Good (b:Bk):Prop where
 bk:BkOk b
 pts:PtsOk b
 cks:CksIn b
 ckl:b.cks.length<=1000000
 two:2<=b.pts.length
 sl0:0<=b.sl
 sl3:b.sl<=3
 wide:∀ i (h:i<b.pts.length),b.pts[i].mh-b.pts[i].ml<3
 ml:∀ i (h:i<b.pts.length),Sm b.pts[i].ml
 mh:∀ i (h:i<b.pts.length),Sm b.pts[i].mh
def nextV (rb rn ry:Nat):Value:=.func (.func 148) #[] #[pt rb,pt rn,pt ry]
structure Frm (G:Hp)(bc:List Value)(rb rn ry:Nat)(y:Value)(E1 E2 E3:TypeId):Prop where
 b:G rb=some (.cells bc.toArray E1,true)
 n:G rn=some (.cells #[nextV rb rn ry] E2,true)
 y:G ry=some (.cells #[y] E3,true)
theorem Frm.inc {G G':Hp}{bc:List Value}{rb rn ry:Nat}{y:Value}{E1 E2 E3:TypeId}(h:Frm G bc rb rn ry y E1 E2 E3)(hi:Inc G G'):Frm G' bc rb rn ry y E1 E2 E3:=⟨hi _ _ h.b,hi _ _ h.n,hi _ _ h.y⟩
theorem Za9 {G H:Hp}(hi:Inc G H){r:Nat}(hr:H r=none):G r=none:=by
 cases hh:G r with
 | none=>rfl
 | some x=>rw[hi r x hh]at hr;simp at hr
theorem Za6 {G G':Hp}(hi:Inc G G'){r:Nat}{o:Obj}(hr:G r=none):Inc G (G'.ins r o):=fun b x hb=>by
 rw[Hp.ins_other _ _ (by rintro rfl;rw[hr]at hb;simp at hb)];exact hi b x hb
theorem Zan {H:Hp}{r:Nat}{cs:List Value}{E:TypeId}{p:Bool}(h:H r=some (.cells cs.toArray E,p)):CellsAt H ⟨r,0,none⟩ cs:=⟨rfl,_,_,h,fun j hj=>by simp[Obj.at?]⟩
theorem ZhU {bf:Int}{sl:Nat}(hl:sl<=1000):∀ r,r<=2 * sl+1->∀ k∈innerR bf sl r,Sm k.by_
 | 0,_,k,h=>by simp[innerR]at h
 | r+1,hr,k,h=>by
  rw[innerR]at h
  split at h
  ·exact ZhU hl r (by omega) k h
  ·rcases List.mem_cons.1 h with rfl | h
   ·exact⟨by show -100000<=(sl:Int)-r;omega,by show (sl:Int)-r<=100000;omega⟩
   ·exact ZhU hl r (by omega) k h
theorem Zj3 {n sl:Nat}(hl:sl<=1000):∀ r,∀ k∈outerR n sl r,Sm k.by_
 | 0,k,h=>by simp[outerR]at h
 | r+1,k,h=>by
  rw[outerR]at h
  rcases List.mem_append.1 h with h | h
  ·exact ZhU hl _ (Nat.le_refl _) k h
  ·exact Zj3 hl r k h
theorem slips_sm {b:Bk}(h0:0<=b.sl)(h1:b.sl<=1000):∀ k∈ZaB b,Sm k.by_:=by
 intro k h
 rcases List.mem_cons.1 h with rfl | h
 ·exact⟨by show (-100000:Int)<=0;omega,by show (0:Int)<=100000;omega⟩
 ·exact Zj3 (by omega) _ k h
section
variable  {P:Prg}[Tz P][Loud P]
set_option maxHeartbeats 1000000
theorem next_ok {b:Bk}{pv cv y:Value}{E1 E2 E3:TypeId}{xs:List (List Value)}{I:Nat->Hp->Prop}{S:Hp->Prop}(gd:Good b)(hI:∀ n,Up (I n))(hS:Up S)(hN:∀ n H,I n H->BkAt H (.agg #[vi b.op,vi b.sl,pv,cv]) b)
  (hy:∀ n (hn:n<xs.length) H,I n H->CallV P y (xs[n]).toArray H (fun v H'=>(v=.bool true∧I (n+1) H')∨(v=.bool false∧S H'))) (rb rn ry:Nat) :
  ∀ (r:Nat) (m:N4) (rest:List (List Value)) (H G:Hp),r<=b.pts.length->m.Sm->Frm G [vi b.op,vi b.sl,pv,cv] rb rn ry y E1 E2 E3->JG G (Seq xs I ((boatsFrom b r m).map Zfe++rest)) H ->
   LL.Zag P 148 #[numV m,vi (b.pts.length-r:Nat),pt rb,pt rn,pt ry] H fun v H'=>(v=vb true∧JG G (Seq xs I rest) H')∨(v=vb false∧JG G S H'):=by
 have hs:=Loud.loud (P:=P)
 have hbk:∀ rest H,Seq xs I rest H->BkAt H (.agg #[vi b.op,vi b.sl,pv,cv]) b:=fun rest H ⟨p,_,_,h⟩=>hN p H h
 have hle:=gd.bk.le
 intro r
 induction r with
 | zero=>
  intro m rest H G hr hm hf hj
  rw[boatsFrom]at hj
  refine IsN.m (isn c144) (args:=[numV m,vi (b.pts.length-0:Nat),pt rb,pt rn,pt ry]) rfl ?_
  unfold n144
  refine wkT ?_
  refine ZbW rfl (hs _) fun r5 hr5=>?_
  have hj1:=hj.new (.cells (numV m).cells 115) hr5
  have g5:=Za9 hj.inc hr5
  refine wkT ?_
  refine Zav (tif t4) (hs _) fun r7 hr7=>?_
  have hj2:=hj1.new (.cells (vb false).cells 4) hr7
  have g7:G r7=none:=Za9 ((Zai g5).trans hj1.inc) hr7
  have hne:r5≠r7:=by rintro rfl;rw[Hp.ins_same]at hr7;simp at hr7
  obtain⟨G2,hG2,a5,a7,hj2⟩:∃ G2:Hp,Inc G G2∧G2 r5=some (.cells m.cells.toArray 115,true)∧G2 r7=some (.cells #[vb false] 4,true)∧JG G2 (Seq xs I ((((ZaB b).map fun k=>(⟨m,k.bf,k.by_⟩:Boat)).filter (ZgM b)).map Zfe++rest)) ((H.ins r5 (.cells (numV m).cells 115)).ins r7 (.cells (vb false).cells 4)):=
   ⟨_,Za6 (Zai g5) g7,by rw[Hp.ins_other _ _ hne];exact Hp.ins_same _ _ _,Hp.ins_same _ _ _,hj2⟩
  generalize (H.ins r5 (.cells (numV m).cells 115)).ins r7 (.cells (vb false).cells 4)=H2 at *
  have bk2:∀ {rest' H'},JG G2 (Seq xs I rest') H'->CellsAt H' (⟨rb,0,none⟩:Addr) [vi b.op,vi b.sl,pv,cv]∧SlAt H' pv b.pts:=by
   intro rest' H' hj'
   obtain⟨pv',cv',e,hp,hc⟩:=hbk _ _ (hj'.up (ZjJ hI))
   simp only[Value.agg.injEq,Array.mk.injEq,List.cons.injEq,and_true]at e
   obtain⟨_,_,rfl,rfl⟩:=e
   exact⟨Zan ((hf.inc (hG2.trans hj'.inc)).b),hp⟩
  have hf2:=hf.inc hG2
  obtain⟨c1,p1⟩:=bk2 hj2
  refine wkT ?_
  refine Zaf (hs _) rfl (ZbA (j:=2) c1 rfl) ?_
  refine wkT ?_
  refine Zau p1 rfl ?_
  refine wkT ?_
  refine wiT (fun h1=>?_) (fun h1=>?_)
  ·exact absurd h1 (by omega)
  refine wkT ?_
  refine Zao (hs _) rfl c1 rfl ?_
  refine wkT ?_
  refine Zci rfl rfl ?_
  refine wkT ?_
  obtain⟨A,cp,hA,_⟩:=p1
  subst hA
  refine ZeI hs rfl (slips_iter gd.sl0 (by have:=gd.sl3;omega) (by omega)) (fun x hx=>by obtain⟨k,_,rfl⟩:=List.mem_map.1 hx;rfl)
   (fun n H'=>JG G2 (Seq xs I (((((ZaB b).drop n).map fun k=>(⟨m,k.bf,k.by_⟩:Boat)).filter (ZgM b)).map Zfe++rest)) H')
   (fun e H'=>e=.ret∧JG G S H'∧CellsAt H' ⟨r7,0,none⟩ [vb false]) hj2 (fun n=>JG.closed) (fun e H' J hc ⟨h1,h2,h3⟩=>⟨h1,JG.closed _ _ hc h2,h3.inc (ZaX _ _)⟩) (fun _ _ _=>trivial) ?_ ?_ ?_
  ·intro n hn H3 hj3
   have hn':n<(ZaB b).length:=by simpa using hn
   obtain⟨k,hk⟩:∃ k,k=(ZaB b)[n]:=⟨_,rfl⟩
   have hxn:((ZaB b).map Zgt)[n]=[ZbG k]:=by rw[List.getElem_map,hk];rfl
   rw[hxn]
   rw[ZcG hn',<-hk,List.map_cons]at hj3
   obtain⟨x,hx⟩:∃ x:Boat,x=⟨m,k.bf,k.by_⟩:=⟨_,rfl⟩
   rw[<-hx]at hj3
   have okx:BtOk x:=by
    subst hx
    refine⟨hm,?_⟩
    have:=slips_sm gd.sl0 (by have:=gd.sl3;omega) k (by rw[hk];exact List.getElem_mem hn')
    exact this
   refine wkT ?_
   refine Zav (tif t70) (hs _) fun r9 hr9=>?_
   refine wkT ?_
   refine Zay (v:=ZbG k) (tif t70) (cs:=[vi 0,vi 0]) rfl rfl (Hp.ins_same _ _ _) rfl rfl rfl (hs _) ?_
   rw[Zbb]
   have hj4:=(hj3.new (.cells (ZbG k).cells 31) hr9).of (fun _ h=>h) (G':=G2) (Zai (Za9 hj3.inc hr9))
   refine wkT ?_
   refine Zao (cs:=m.cells) (hs _) rfl (Zan (hj4.inc _ _ a5)) rfl ?_
   refine wkT ?_
   refine Zao (cs:=[vi k.bf,vi k.by_]) (hs _) rfl Zar rfl ?_
   refine wkT ?_
   refine Zav (tif t121) (hs _) fun r10 hr10=>?_
   refine wkT ?_
   refine Zay (v:=ZaH x) (tif t121) (cs:=[vi 0,vi 0,vi 0,vi 0,vi 0,vi 0]) rfl (by rw[hx];rfl) (Hp.ins_same _ _ _) rfl rfl rfl (hs _) ?_
   rw[Zbb]
   have hj5:=(hj4.new (.cells (ZaH x).cells 117) hr10).of (fun _ h=>h) (G':=G2) (Zai (Za9 hj4.inc hr10))
   have c10:CellsAt ((H3.ins r9 (.cells (ZbG k).cells 31)).ins r10 (.cells (ZaH x).cells 117)) ⟨r10,0,none⟩ x.cells:=Zar
   generalize (H3.ins r9 (.cells (ZbG k).cells 31)).ins r10 (.cells (ZaH x).cells 117)=H5 at *
   refine wkT ?_
   refine Zao (hs _) rfl (bk2 hj5).1 rfl ?_
   refine wkT ?_
   refine Zao (hs _) rfl c10 rfl ?_
   refine wkT ?_
   refine Zab (vs:=[.agg #[vi b.op,vi b.sl,.slice A b.pts.length cp,cv],ZaH x]) rfl (right_ok (hbk _ _ (hj5.up (ZjJ hI))) gd.bk okx gd.cks gd.ckl (hs _)) ?_
   rintro v H6 ⟨hs6,rfl⟩
   have hj6:=hj5.sub hs6
   have c10':=c10.sub hs6
   refine wkT ?_
   refine wiT (fun h2=>?_) (fun h2=>?_)
   ·rw[List.filter_cons,if_pos h2,List.map_cons,List.cons_append]at hj6
    refine wkT ?_
    refine Zaf (hs _) rfl (Zan (hj6.inc _ _ hf2.y)) ?_
    refine wkT ?_
    refine Zao (hs _) rfl c10' rfl ?_
    refine wkT ?_
    refine ZaP (vs:=[ZaH x]) rfl rfl (JG.call (fun H h=>Seq.call (S:=S) hy h) hj6) ?_
    rintro v H7 ⟨Hc,F,rfl,q1,q2,(⟨rfl,q3⟩ | ⟨rfl,q3⟩)⟩
    ·refine wkT ?_
     exact⟨Hc,F,rfl,q1,q2,q3⟩
    ·have hj7:JG G2 S (Hc.join F):=⟨Hc,F,rfl,q1,q2,q3⟩
     refine wkT ?_
     refine Zaw (tif t4) rfl rfl (hj7.inc _ _ a7) rfl rfl (hs _) ?_
     refine wkT ?_
     exact⟨rfl,(hj7.put _ a7).of (fun _ h=>h) (Za6 hG2 g7),Zar⟩
   ·rw[List.filter_cons,if_neg (by simp[h2])]at hj6
    refine wkT ?_
    exact hj6
  ·intro H3 hj3
   rw[List.length_map,List.drop_length,List.map_nil,List.filter_nil,List.map_nil,List.nil_append]at hj3
   refine wkT ?_
   refine Zaw (tif t4) rfl rfl (hj3.inc _ _ a7) rfl rfl (hs _) ?_
   refine wkT ?_
   refine Zct (vs:=[vb true]) rfl (hs _) ⟨⟨_,rfl,Zar⟩,trivial⟩ ?_
   exact .inl ⟨rfl,(hj3.put _ a7).of (fun _ h=>h) (Za6 hG2 g7)⟩
  ·rintro e H3 he ⟨rfl,hj3,hc3⟩
   refine wkT ?_
   refine Zct (vs:=[vb false]) rfl (hs _) ⟨⟨_,rfl,hc3⟩,trivial⟩ ?_
   exact .inr ⟨rfl,hj3⟩
 | succ r ih=>
  intro m rest H G hr hm hf hj
  rw[boatsFrom]at hj
  have hi:b.pts.length-(r+1)<b.pts.length:=by omega
  have hi1:((b.pts.length-(r+1):Nat):Int)+1=(b.pts.length-r:Nat):=by omega
  generalize b.pts.length-(r+1)=i at *
  have hi4:i<4:=by omega
  have hpt:ptAt b i=b.pts[i]:=Zbc hi _
  rw[hpt]at hj
  obtain⟨q1,q2⟩:=gd.ml i hi
  obtain⟨q3,q4⟩:=gd.mh i hi
  refine IsN.m (isn c144) (args:=[numV m,vi i,pt rb,pt rn,pt ry]) rfl ?_
  unfold n144
  refine wkT ?_
  refine ZbW rfl (hs _) fun r5 hr5=>?_
  have hj1:=hj.new (.cells (numV m).cells 115) hr5
  have g5:=Za9 hj.inc hr5
  refine wkT ?_
  refine Zav (tif t4) (hs _) fun r7 hr7=>?_
  have hj2:=hj1.new (.cells (vb false).cells 4) hr7
  have g7:G r7=none:=Za9 ((Zai g5).trans hj1.inc) hr7
  have hne:r5≠r7:=by rintro rfl;rw[Hp.ins_same]at hr7;simp at hr7
  obtain⟨G2,hG2,a5,a7,hj2⟩:∃ G2:Hp,Inc G G2∧G2 r5=some (.cells m.cells.toArray 115,true)∧G2 r7=some (.cells #[vb false] 4,true)∧JG G2 (Seq xs I ((spanR (fun v=>boatsFrom b r (m.put i v)) b.pts[i].mh (b.pts[i].mh-b.pts[i].ml+1).toNat).map Zfe++rest)) ((H.ins r5 (.cells (numV m).cells 115)).ins r7 (.cells (vb false).cells 4)):=
   ⟨_,Za6 (Zai g5) g7,by rw[Hp.ins_other _ _ hne];exact Hp.ins_same _ _ _,Hp.ins_same _ _ _,hj2⟩
  generalize (H.ins r5 (.cells (numV m).cells 115)).ins r7 (.cells (vb false).cells 4)=H2 at *
  have bk2:∀ {G' H' rest'},Inc G G'->JG G' (Seq xs I rest') H'->CellsAt H' ((⟨rb,0,none⟩:Addr).add 2) [pv]∧SlAt H' pv b.pts:=by
   intro G' H' rest' hG' hj'
   obtain⟨pv',cv',e,hp,hc⟩:=hbk _ _ (hj'.up (ZjJ hI))
   simp only[Value.agg.injEq,Array.mk.injEq,List.cons.injEq,and_true]at e
   obtain⟨_,_,rfl,rfl⟩:=e
   exact⟨ZbA (Zan ((hf.inc (hG'.trans hj'.inc)).b)) rfl,hp⟩
  obtain⟨c1,p1⟩:=bk2 hG2 hj2
  refine wkT ?_
  refine Zaf (hs _) rfl c1 ?_
  refine wkT ?_
  refine Zau p1 rfl ?_
  refine wkT ?_
  refine wiT (fun h1=>?_) (fun h1=>?_)
  rotate_left
  ·exact absurd (by omega) h1
  refine wkT ?_
  refine Zaf (hs _) rfl c1 ?_
  refine wkT ?_
  refine ZaE p1 rfl rfl rfl (i:=i) hi fun a ha=>?_
  refine wkT ?_
  refine Zaf (hs _) rfl (ZbA (j:=0) ha rfl) ?_
  refine wkT ?_
  generalize hcnt:(b.pts[i].mh-b.pts[i].ml+1).toNat=cnt at hj2
  refine ZaO (α:=N4×Hp) cnt (fun k s H'=>Inc G s.2∧s.2 r5=some (.cells s.1.cells.toArray 115,true)∧s.2 r7=some (.cells #[vb false] 4,true)∧(∀ v,s.1.put i v=m.put i v) ∧
    JG s.2 (Seq xs I ((spanR (fun v=>boatsFrom b r (m.put i v)) b.pts[i].mh (cnt-k)).map Zfe++rest)) H')
   (fun k s=>[(1,vi i),(2,pt rb),(3,pt rn),(4,pt ry),(5,pt r5),(7,pt r7),(8,vi (b.pts[i].ml+k))]) (fun _ _=>[]) (m,G2) ⟨hG2,a5,a7,fun _=>rfl,hj2⟩ ⟨rfl,rfl,rfl,rfl,rfl,rfl,by simp[NSt.set],trivial⟩ trivial ?_
  rintro k ⟨m',G3⟩ H3 hk ⟨hG3,a5',a7',hput,hj3⟩
  simp only at hG3 a5' a7' hput hj3
  obtain⟨c3,p3⟩:=bk2 hG3 hj3
  refine wkT ?_
  refine Zaf (hs _) rfl c3 ?_
  refine wkT ?_
  refine ZaE p3 rfl rfl rfl (i:=i) hi fun a ha=>?_
  refine wkT ?_
  refine Zaf (hs _) rfl (ZbA (j:=1) ha rfl) ?_
  refine wkT ?_
  refine wiT (fun h2=>?_) (fun h2=>?_)
  ·refine wkT ?_
   refine Zl6 (und u119) (tif t3) rfl rfl hi4 ?_
   refine wkT ?_
   have hs5:ZaM m'.cells (0+i * 1) [vi (b.pts[i].ml+k)]=(m.put i (b.pts[i].ml+k)).cells:=by rw[Zex _ _ hi4,hput]
   have hadd:(⟨r5,0,none⟩:Addr).add (i * 1)=⟨r5,i * 1,none⟩:=by rw[ZdC rfl,Nat.zero_add]
   rw[hadd]
   have hj4:=hj3.put (.cells (m.put i (b.pts[i].ml+k)).cells.toArray 115) a5'
   have hG4:Inc G (G3.ins r5 (.cells (m.put i (b.pts[i].ml+k)).cells.toArray 115)):=Za6 hG3 g5
   have hm4:(m.put i (b.pts[i].ml+k)).Sm:=by
    intro j hj
    rw[N4.put_get _ _ hj]
    split
    ·exact⟨by omega,by omega⟩
    ·exact hm j hj
   refine Zd5 (cs:=m'.cells) (tif t3) rfl rfl (hj3.inc _ _ a5') rfl (by show i * 1+1<=4;omega) rfl (hs _) ?_
   have e5:ZaM m'.cells (i * 1) (Value.cells (vi (b.pts[i].ml+k))).toList=(m.put i (b.pts[i].ml+k)).cells:=by rw[<-hs5,Nat.zero_add];rfl
   rw[e5]
   have a54:(G3.ins r5 (.cells (m.put i (b.pts[i].ml+k)).cells.toArray 115)) r5=some (.cells (m.put i (b.pts[i].ml+k)).cells.toArray 115,true):=Hp.ins_same _ _ _
   have a74:(G3.ins r5 (.cells (m.put i (b.pts[i].ml+k)).cells.toArray 115)) r7=some (.cells #[vb false] 4,true):=by rw[Hp.ins_other _ _ (Ne.symm hne)];exact a7'
   generalize G3.ins r5 (.cells (m.put i (b.pts[i].ml+k)).cells.toArray 115)=G4 at *
   generalize H3.ins r5 (.cells (m.put i (b.pts[i].ml+k)).cells.toArray 115)=H4 at *
   have hf4:=hf.inc hG4
   have e6:cnt-k=(cnt-(k+1))+1:=by omega
   have e7:b.pts[i].mh-((cnt-(k+1):Nat):Int)=b.pts[i].ml+k:=by omega
   rw[e6,spanR,List.map_append,List.append_assoc,e7]at hj4
   refine wkT ?_
   refine Zaf (hs _) rfl (Zan (hj4.inc _ _ hf4.n)) ?_
   refine wkT ?_
   refine Zao (hs _) rfl (Zan (hj4.inc _ _ a54)) rfl ?_
   refine wkT ?_
   rw[hi1]
   refine ZaP rfl rfl (ZcY (by kernel_rfl) (ih (m.put i (b.pts[i].ml+k)) _ H4 G4 (by omega) hm4 hf4 hj4)) ?_
   rintro v H5 (⟨rfl,hj5⟩ | ⟨rfl,hj5⟩)
   ·refine wkT ?_
    refine⟨(⟨k+1,by omega⟩,(m.put i (b.pts[i].ml+k),G4)),slt (by omega),⟨hG4,a54,a74,fun v=>N4.put_put _ _ _,hj5⟩,⟨rfl,rfl,rfl,rfl,rfl,rfl,?_,trivial⟩,trivial,rfl⟩
    show some (vi (b.pts[i].ml+k+1))=some (vi (b.pts[i].ml+(k+1:Nat)))
    congr 2
    omega
   ·refine wkT ?_
    refine Zaw (tif t4) rfl rfl (hj5.inc _ _ a74) rfl rfl (hs _) ?_
    refine wkT ?_
    refine Zct (vs:=[vb false]) rfl (hs _) ⟨⟨_,rfl,Zar⟩,trivial⟩ ?_
    exact .inr ⟨rfl,(hj5.put _ a74).of (fun _ h=>h) (Za6 hG4 g7)⟩
  ·have e6:cnt-k=0:=by omega
   rw[e6,spanR,List.map_nil,List.nil_append]at hj3
   refine wkT ?_
   refine Zaw (tif t4) rfl rfl (hj3.inc _ _ a7') rfl rfl (hs _) ?_
   refine wkT ?_
   refine Zct (vs:=[vb true]) rfl (hs _) ⟨⟨_,rfl,Zar⟩,trivial⟩ ?_
   exact .inl ⟨rfl,(hj3.put _ a7').of (fun _ h=>h) (Za6 hG3 g7)⟩
end
end Go.Proofs
end
