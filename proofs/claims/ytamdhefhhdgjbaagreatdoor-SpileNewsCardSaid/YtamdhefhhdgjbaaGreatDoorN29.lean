import Derived.Test.YtamdhefhhdgjbaaGreatDoorN28
set_option linter.all false
section
open Go Go.LL
namespace Go.Proofs
def spf (p:Program)(t:TypeId):Option (List (String×TypeId×Nat)×Bool):=match p.underlying t with | some (.struct fs)=>some (fs.toList.map (fun f=>(f.name,f.type,f.offset)),p.stoodInHeld t) | _=>none
theorem spf2 {p:Program}{t:TypeId}{n1 n2:String}{t1 t2 o1 o2:Nat}{b:Bool}(h:spf p t=some ([(n1,t1,o1),(n2,t2,o2)],b)):∃ f1 f2:Field,p.underlying t=some (.struct #[f1,f2])∧(f1.name=n1∧f1.type=t1∧f1.offset=o1)∧(f2.name=n2∧f2.type=t2∧f2.offset=o2)∧p.stoodInHeld t=b:=by
 unfold spf at h
 split at h
 ·rename_i fs hu
  obtain⟨fs⟩:=fs
  simp only[Option.some.injEq,Prod.mk.injEq]at h
  obtain⟨h,h2⟩:=h
  match fs,h with
  | [f1,f2],h=>
   simp only[List.map_cons,List.map_nil,List.cons.injEq,Prod.mk.injEq]at h
   exact⟨f1,f2,hu,h.1,h.2.1,h2⟩
 ·simp at h
theorem spf3 {p:Program}{t:TypeId}{n1 n2 n3:String}{t1 t2 t3 o1 o2 o3:Nat}{b:Bool}(h:spf p t=some ([(n1,t1,o1),(n2,t2,o2),(n3,t3,o3)],b)):∃ f1 f2 f3:Field,p.underlying t=some (.struct #[f1,f2,f3])∧(f1.name=n1∧f1.type=t1∧f1.offset=o1)∧(f2.name=n2∧f2.type=t2∧f2.offset=o2)∧(f3.name=n3∧f3.type=t3∧f3.offset=o3)∧p.stoodInHeld t=b:=by
 unfold spf at h
 split at h
 ·rename_i fs hu
  obtain⟨fs⟩:=fs
  simp only[Option.some.injEq,Prod.mk.injEq]at h
  obtain⟨h,h2⟩:=h
  match fs,h with
  | [f1,f2,f3],h=>
   simp only[List.map_cons,List.map_nil,List.cons.injEq,Prod.mk.injEq]at h
   exact⟨f1,f2,f3,hu,h.1,h.2.1,h.2.2.1,h2⟩
 ·simp at h
theorem s70:spf Tryz.prog 70=some ([("Before",3,0),("By",3,1)],false):=by kernel_rfl
theorem s49:spf Tryz.prog 49=some ([("Low",3,0),("High",3,1)],false):=by kernel_rfl
theorem s51:spf Tryz.prog 51=some ([("Point",3,0),("Gap",49,1)],false):=by kernel_rfl
theorem s59:spf Tryz.prog 59=some ([("Mark",49,0),("Board",49,2),("Width",3,4)],false):=by kernel_rfl
theorem ui3:Tryz.prog.underlying 3=some (.int .i64):=by kernel_rfl
theorem a49:Zb5 Tryz.prog 49=some (some 2):=by kernel_rfl
section
variable  {P:Prg}[Tz P]{H:Hp}{g:Bool}{d:Nat}
theorem Zex {cs:Array Value}{off:Nat}{v:Value}(h:cs[off]? = some v)(Q:Value->Bool->Hp->Prop):wpL P.toPQ (part 3 cs off) Q g H↔Q v g H:=by
 simp only[part,Zaa,ZbX (agf (P:=P) a3),Bool.false_eq_true,if_false,h,Zac]
theorem partA {t n:Nat}{cs:Array Value}{off:Nat}(h:Zb5 Tryz.prog t=some (some n))(Q:Value->Bool->Hp->Prop):wpL P.toPQ (part t cs off) Q g H↔Q (.agg (cs.extract off (off+n))) g H:=by
 obtain⟨i,h1,h2,h3⟩:=Zcl (agf (P:=P) h)
 simp only[part,Zaa,h3,if_true,Zas h1,h2,Zac]
theorem eq3 {a b:Int}(Q:Bool->Bool->Hp->Prop):wpL P.toPQ (Op.equalIn (d+1) 3 (vi a) (vi b)) Q g H↔Q (decide (a=b)) g H:=by
 simp only[Op.equalIn,Zaa,Zad (und (P:=P) ui3),if_true,Zac]
 have:(a == b)=decide (a=b):=by rw[Bool.eq_iff_iff];simp
 rw[this]
theorem eqP {t:TypeId}(hs:spf Tryz.prog t=some ([("Before",3,0),("By",3,1)],false)∨spf Tryz.prog t=some ([("Low",3,0),("High",3,1)],false)){a b c e:Int}(Q:Bool->Bool->Hp->Prop)(hq:Q (decide (a=c∧b=e)) g H):wpL P.toPQ (Op.equalIn (d+1+1) t (.agg #[vi a,vi b]) (.agg #[vi c,vi e])) Q g H:=by
 have p1:∀ (x y:Int) (Q:Value->Bool->Hp->Prop) g H,wpL P.toPQ (part 3 #[vi x,vi y] 0) Q g H↔Q (vi x) g H:=fun x y Q g H=>Zex rfl Q
 have p2:∀ (x y:Int) (Q:Value->Bool->Hp->Prop) g H,wpL P.toPQ (part 3 #[vi x,vi y] 1) Q g H↔Q (vi y) g H:=fun x y Q g H=>Zex rfl Q
 rcases hs with hs | hs
 all_goals
  obtain⟨f1,f2,hu,⟨n1,t1,o1⟩,⟨n2,t2,o2⟩,hs⟩:=spf2 (p:=P.toProgram) (by rw[Tz.prog (P:=P)];exact hs)
  rw[Op.equalIn]
  simp only[Zaa,Zad hu,ZaJ,hs,Bool.false_eq_true,if_false,Zac]
  simp only[n1,n2,t1,t2,o1,o2,Zaa,List.forIn_toArray,List.forIn_cons,List.forIn_nil]
  by_cases h1:a=c<;>by_cases h2:b=e<;>simp[p1,p2,eq3,Zaa,Zac,h1,h2]at hq ⊢<;>exact hq
theorem Zoz {t:TypeId}(hs:spf Tryz.prog t=some ([("Before",3,0),("By",3,1)],false)∨spf Tryz.prog t=some ([("Low",3,0),("High",3,1)],false)){a b c e:Int}(Q:Bool->Bool->Hp->Prop):wpL P.toPQ (Op.equalIn (d+1+1) t (.agg #[vi a,vi b]) (.agg #[vi c,vi e])) Q g H↔Q (decide (a=c∧b=e)) g H:=by
 refine⟨fun h=>?_,eqP hs Q⟩
 have p1:∀ (x y:Int) (Q:Value->Bool->Hp->Prop) g H,wpL P.toPQ (part 3 #[vi x,vi y] 0) Q g H↔Q (vi x) g H:=fun x y Q g H=>Zex rfl Q
 have p2:∀ (x y:Int) (Q:Value->Bool->Hp->Prop) g H,wpL P.toPQ (part 3 #[vi x,vi y] 1) Q g H↔Q (vi y) g H:=fun x y Q g H=>Zex rfl Q
 rcases hs with hs | hs
 all_goals
  obtain⟨f1,f2,hu,⟨n1,t1,o1⟩,⟨n2,t2,o2⟩,hs⟩:=spf2 (p:=P.toProgram) (by rw[Tz.prog (P:=P)];exact hs)
  rw[Op.equalIn]at h
  simp only[Zaa,Zad hu,ZaJ,hs,Bool.false_eq_true,if_false,Zac]at h
  simp only[n1,n2,t1,t2,o1,o2,Zaa,List.forIn_toArray,List.forIn_cons,List.forIn_nil]at h
  by_cases h1:a=c<;>by_cases h2:b=e<;>simp[p1,p2,eq3,Zaa,Zac,h1,h2]at h ⊢<;>exact h
def ckEq (a b:SCk):Bool:=decide (a.p=b.p∧a.gl=b.gl∧a.gh=b.gh)
def ptEq (a b:SPt):Bool:=decide (a.ml=b.ml∧a.mh=b.mh∧a.bl=b.bl∧a.bh=b.bh∧a.w=b.w)
theorem eq51 {a b:SCk}(Q:Bool->Bool->Hp->Prop)(hq:Q (ckEq a b) g H):wpL P.toPQ (Op.equalIn (d+1+1+1) 51 (.agg #[vi a.p,vi a.gl,vi a.gh]) (.agg #[vi b.p,vi b.gl,vi b.gh])) Q g H:=by
 have p1:∀ (x y z:Int) (Q:Value->Bool->Hp->Prop) g H,wpL P.toPQ (part 3 #[vi x,vi y,vi z] 0) Q g H↔Q (vi x) g H:=fun x y z Q g H=>Zex rfl Q
 have p2:∀ (x y z:Int) (Q:Value->Bool->Hp->Prop) g H,wpL P.toPQ (part 49 #[vi x,vi y,vi z] 1) Q g H↔Q (.agg #[vi y,vi z]) g H:=fun x y z Q g H=>partA a49 Q
 obtain⟨f1,f2,hu,⟨n1,t1,o1⟩,⟨n2,t2,o2⟩,hs⟩:=spf2 (p:=P.toProgram) (by rw[Tz.prog (P:=P)];exact s51)
 rw[Op.equalIn]
 simp only[Zaa,Zad hu,ZaJ,hs,Bool.false_eq_true,if_false,Zac]
 simp only[n1,n2,t1,t2,o1,o2,Zaa,List.forIn_toArray,List.forIn_cons,List.forIn_nil]
 unfold ckEq at hq
 by_cases h1:a.p=b.p<;>by_cases h2:a.gl=b.gl<;>by_cases h3:a.gh=b.gh<;>simp[p1,p2,eq3,Zoz (.inr s49),Zaa,Zac,h1,h2,h3]at hq ⊢<;>exact hq
theorem eq59 {a b:SPt}(Q:Bool->Bool->Hp->Prop)(hq:Q (ptEq a b) g H):wpL P.toPQ (Op.equalIn (d+1+1+1) 59 (.agg #[vi a.ml,vi a.mh,vi a.bl,vi a.bh,vi a.w]) (.agg #[vi b.ml,vi b.mh,vi b.bl,vi b.bh,vi b.w])) Q g H:=by
 have p1:∀ (x y z u v:Int) (Q:Value->Bool->Hp->Prop) g H,wpL P.toPQ (part 49 #[vi x,vi y,vi z,vi u,vi v] 0) Q g H↔Q (.agg #[vi x,vi y]) g H:=fun x y z u v Q g H=>partA a49 Q
 have p2:∀ (x y z u v:Int) (Q:Value->Bool->Hp->Prop) g H,wpL P.toPQ (part 49 #[vi x,vi y,vi z,vi u,vi v] 2) Q g H↔Q (.agg #[vi z,vi u]) g H:=fun x y z u v Q g H=>partA a49 Q
 have p3:∀ (x y z u v:Int) (Q:Value->Bool->Hp->Prop) g H,wpL P.toPQ (part 3 #[vi x,vi y,vi z,vi u,vi v] 4) Q g H↔Q (vi v) g H:=fun x y z u v Q g H=>Zex rfl Q
 obtain⟨f1,f2,f3,hu,⟨n1,t1,o1⟩,⟨n2,t2,o2⟩,⟨n3,t3,o3⟩,hs⟩:=spf3 (p:=P.toProgram) (by rw[Tz.prog (P:=P)];exact s59)
 rw[Op.equalIn]
 simp only[Zaa,Zad hu,ZaJ,hs,Bool.false_eq_true,if_false,Zac]
 simp only[n1,n2,n3,t1,t2,t3,o1,o2,o3,Zaa,List.forIn_toArray,List.forIn_cons,List.forIn_nil]
 unfold ptEq at hq
 have e1:(a.ml=b.ml∧a.mh=b.mh∧a.bl=b.bl∧a.bh=b.bh∧a.w=b.w)↔((a.ml=b.ml∧a.mh=b.mh)∧(a.bl=b.bl∧a.bh=b.bh)∧a.w=b.w):=by constructor<;>(intro h;simp_all)
 simp only[e1]at hq
 by_cases h1:(a.ml=b.ml∧a.mh=b.mh)<;>by_cases h2:(a.bl=b.bl∧a.bh=b.bh)<;>by_cases h3:a.w=b.w<;>simp only[h1,h2,h3,and_self,and_true,true_and,and_false,false_and,decide_true,decide_false]at hq<;>simp[p1,p2,p3,eq3,Zoz (.inr s49),Zaa,Zac,h1,h2,h3]<;>exact hq
def n4Eq (a b:N4):Bool:=decide (a.a=b.a∧a.b=b.b∧a.c=b.c∧a.d=b.d)
theorem eq119 {a b:N4}(Q:Bool->Bool->Hp->Prop)(hq:Q (n4Eq a b) g H):wpL P.toPQ (Op.equalIn (d+1+1) 119 (numV a) (numV b)) Q g H:=by
 have p1:∀ (x y z u:Int) (Q:Value->Bool->Hp->Prop) g H,wpL P.toPQ (part 3 #[vi x,vi y,vi z,vi u] 0) Q g H↔Q (vi x) g H:=fun x y z u Q g H=>Zex rfl Q
 have p2:∀ (x y z u:Int) (Q:Value->Bool->Hp->Prop) g H,wpL P.toPQ (part 3 #[vi x,vi y,vi z,vi u] 1) Q g H↔Q (vi y) g H:=fun x y z u Q g H=>Zex rfl Q
 have p3:∀ (x y z u:Int) (Q:Value->Bool->Hp->Prop) g H,wpL P.toPQ (part 3 #[vi x,vi y,vi z,vi u] 2) Q g H↔Q (vi z) g H:=fun x y z u Q g H=>Zex rfl Q
 have p4:∀ (x y z u:Int) (Q:Value->Bool->Hp->Prop) g H,wpL P.toPQ (part 3 #[vi x,vi y,vi z,vi u] 3) Q g H↔Q (vi u) g H:=fun x y z u Q g H=>Zex rfl Q
 obtain⟨inf,i1,i2,i3,i4⟩:=(tif (P:=P) t3).ex
 rw[Op.equalIn]
 simp only[numV,Zaa,Zad (und (P:=P) u119),Zas i1,i2,Zac]
 unfold n4Eq at hq
 have hr:List.range' 0 4=[0,1,2,3]:=rfl
 simp only[Std.Legacy.Range.forIn_eq_forIn_range',Std.Legacy.Range.size,Nat.sub_zero,Nat.add_sub_cancel,Nat.div_one,hr,List.forIn_cons,List.forIn_nil,Zaa]
 by_cases h1:a.a=b.a<;>by_cases h2:a.b=b.b<;>by_cases h3:a.c=b.c<;>by_cases h4:a.d=b.d<;>simp[p1,p2,p3,p4,eq3,Zaa,Zac,h1,h2,h3,h4]at hq ⊢<;>exact hq
end
theorem qNLsL0 {G:Prop} (h:G:=by
  rw[this]
  refine Zhh fun Q g H hq=>?_
  have hg':P.toProgram.eqGuardType P.toProgram.depth t=false:=by rw[Tz.prog (P:=P)];exact hg
  rw[Zaa]
  unfold eqGuard
  simp only[Zaa,Zac,Bool.not_true,Bool.false_eq_true,if_false]
  rw[ZaJ,ZaJ,hg']
  simp only[Bool.not_false,if_true,Zac]
  exact Zaa.2 (hE _ _ _ hq)):G:=h
def eqGB (p:Program)(t:TypeId):Bool:=p.eqGuardType p.depth t
theorem g70:eqGB Tryz.prog 70=false:=by kernel_rfl
theorem g49:eqGB Tryz.prog 49=false:=by kernel_rfl
theorem g51:eqGB Tryz.prog 51=false:=by kernel_rfl
theorem g59:eqGB Tryz.prog 59=false:=by kernel_rfl
section
variable  {P:Prg}[Tz P]{H:Hp}{d:Option Nat}{next:NSt->Hp->Prop}{σ:NSt}{x y:Operand}{ty t2:TypeId}{v:Value}
theorem om_eqS {t:TypeId}{xs ys:Array Value}{b:Bool}(hg:eqGB Tryz.prog t=false)(hE:∀ (Q:Bool->Bool->Hp->Prop) (g:Bool) (H:Hp),Q b g H->wpL P.toPQ (Op.equalIn (9998+1+1) t (.agg xs) (.agg ys)) Q g H)(e1:σ.get x=some (.agg xs))(e2:σ.get y=some (.agg ys))(h:next (σ.set d (vb b)) H) :
  (NOp.pur (.binOp .eql t x y t2) ty).m P d next σ H:=by
 refine Zcp (by simp[Op.operands,e1,e2]) ?_ h
 have:execOp (fun x=>(σ.get x).getD undef) (bare (.binOp .eql t x y t2) ty)=(do let v <-(do eqGuard .eql t x y (.agg xs) (.agg ys);binOp .eql t (.agg xs) (.agg ys));pure (.value v)):=by simp[execOp,bare,e1,e2]
 exact qNLsL0
theorem Zjz {t:TypeId}{xs ys:Array Value}{b:Bool}(hg:eqGB Tryz.prog t=false)(hE:∀ (Q:Bool->Bool->Hp->Prop) (g:Bool) (H:Hp),Q b g H->wpL P.toPQ (Op.equalIn (9998+1+1) t (.agg xs) (.agg ys)) Q g H)(e1:σ.get x=some (.agg xs))(e2:σ.get y=some (.agg ys))(h:next (σ.set d (vb !b)) H) :
  (NOp.pur (.binOp .neq t x y t2) ty).m P d next σ H:=by
 refine Zcp (by simp[Op.operands,e1,e2]) ?_ h
 have:execOp (fun x=>(σ.get x).getD undef) (bare (.binOp .neq t x y t2) ty)=(do let v <-(do eqGuard .neq t x y (.agg xs) (.agg ys);binOp .neq t (.agg xs) (.agg ys));pure (.value v)):=by simp[execOp,bare,e1,e2]
 exact qNLsL0
theorem Zjy {t e:TypeId}{len sz by_ hi:Nat}{zv:Value}{a:Addr}{k:IntKind}{hx:Option Operand}(hu:P.toProgram.underlying t=some (.array len e))(ti:TI P.toProgram e sz zv by_)(hlen:0<len)(e1:σ.get x=some (.pointer (some a)))(e3:(hx=none∧hi=len)∨∃ z,hx=some z∧σ.get z=some (.int k (hi:Int)))(hhi:hi<=len)
  (h:next (σ.set d (.slice (some a) hi len)) H):(NOp.pur (.slice t x none hx none) ty).m P d next σ H:=by
 obtain⟨inf,i1,i2,i3,i4⟩:=ti.ex
 have hc2:(0:Int)<=(hi:Int)∧(hi:Int)<=(len:Nat):=⟨by omega,by omega⟩
 have ha:a.add (0 * sz)=a:=by rw[Nat.zero_mul];rfl
 have hne:¬ len=0:=by omega
 rcases e3 with ⟨rfl,rfl⟩ | ⟨z,rfl,e3⟩
 ·refine Zcp (by simp[Op.operands,e1]) ?_ h
  have:execOp (fun x=>(σ.get x).getD undef) (bare (.slice t x none none none) ty)=(do let v <-Instr.sliceAt t (.pointer (some a)) none none none;pure (.value v)):=by simp[execOp,bare,e1]
  rw[this]
  refine Zhh fun Q g H hq=>?_
  simp only[Instr.sliceAt,Zaa,Zad hu,Instr.sureAddr,Instr.sliceBounds,Zac,Zas i1,i2,ha,if_neg hne,Nat.sub_zero]
  exact hq
 ·refine Zcp (by simp[Op.operands,e1,e3]) ?_ h
  have:execOp (fun x=>(σ.get x).getD undef) (bare (.slice t x none (some z) none) ty)=(do let v <-Instr.sliceAt t (.pointer (some a)) none (some (.int k (hi:Int))) none;pure (.value v)):=by simp[execOp,bare,e1,e3]
  rw[this]
  refine Zhh fun Q g H hq=>?_
  simp only[Instr.sliceAt,Zaa,Zad hu,Instr.sureAddr,Instr.sliceBounds,Instr.sliceBound,asIntOf,Zac,if_pos hc2,Zas i1,i2,ha,if_neg hne,Nat.sub_zero,Int.toNat_natCast]
  exact hq
theorem om_copy {sT sT' E T E2:TypeId}{by_ r dl dc:Nat}{zv w:Value}{l:List Int}{cs:List Value}(hu:P.toProgram.underlying sT=some (.slice E))(ti:TI P.toProgram E 1 zv by_)(e1:σ.get x=some (.slice (some ⟨r,0,none⟩) dl dc))(e2:σ.get y=some w)(hw:SlAt H w l)(hl:l.length<=dl)(hc:dl=cs.length)(hb:H r=some (.cells cs.toArray E2 (0,0),true))(hst:P.still H.gh=false)
  (h:next (σ.set d (vi l.length)) (H.ins r (.cells (l.map vi++cs.drop l.length).toArray E2))):(NOp.raw (.call { callee:=.builtin .copy,args:=#[x,y],argTypes:=#[sT,sT'] }) T).m P d next σ H:=by
 obtain⟨inf,i1,i2,i3,i4⟩:=ti.ex
 refine Zbh (s:=Builtin.copy_ #[sT,sT'] T #[.slice (some ⟨r,0,none⟩) dl dc,w]) (by simp[Op.operands,Call.operands,e1,e2]) (by simp[execOp,bare,resolve,invoke,builtin,e1,e2]) ?_
 obtain⟨A,c,rfl,hh⟩:=hw
 have hmin:Nat.min l.length dl=l.length:=Nat.min_eq_left hl
 simp only[Builtin.copy_,List.getElem?_toArray,List.getElem?_cons_zero,List.getElem?_cons_succ,Zaa,Zad hu,Builtin.lenOf,Zac,hmin,Zas i1,i2]
 have hfirst:∀ (Q:Array Value->Bool->Hp->Prop),Q (l.map vi).toArray false H->wpL P.toPQ (Builtin.firstCells 1 l.length (.slice A l.length c)) Q false H:=by
  intro Q hq
  by_cases hn:l=[]
  ·subst hn
   cases A<;>simpa[Builtin.firstCells,Zac,loadCells,loadCellsFrom]using hq
  ·obtain⟨a,rfl,hca⟩:=hh hn
   rw[ZbK]at hca
   simp only[Builtin.firstCells]
   exact Zdf hst hca hq (by simp)
 refine hfirst _ ?_
 refine ZbC _ _ (l.map vi) 0 0 cs H hst hb (by simp[Value.isOne]) (by simp;omega) ?_
 simpa[goInt]using h
end
theorem Zbk {H:Hp}{r:Nat}{o o':Obj}:(H.ins r o).ins r o'=H.ins r o':=by
 refine Hp.ext' (fun c=>?_) rfl
 by_cases e:c=r
 ·subst e;rw[Hp.ins_same,Hp.ins_same]
 ·rw[Hp.ins_other _ _ e,Hp.ins_other _ _ e,Hp.ins_other _ _ e]
theorem Zaw {H:Hp}{r:Nat}{cs:List Value}{E:TypeId}:CellsAt (H.ins r (.cells cs.toArray E)) ⟨r,0,none⟩ cs:=⟨rfl,_,_,Hp.ins_same _ _ _,fun j hj=>by simp[Obj.at?]⟩
def n4of (l:List Int):N4:=.of fun i=>l.getD i 0
def ZbG (b:Bk)(l:List Int)(lo hi:Int):Int:=if l.length≠b.pts.length then 2 else if l.all (fun n=>decide (lo<=n∧n<=hi)) then 0 else 1
def Zhk (b:Bk)(x:Boat):Bool:=decide (lowF b (Zav b x)<=ZfM b (Zav b x))
def Boat.slipped (x:Boat):Bool:=!decide (x.bf=0∧x.by_=0)
section
variable  {P:Prg}[Tz P]{H:Hp}
set_option maxHeartbeats 400000
theorem one1_ok (n lo hi:Int){r1 r2:Nat}(h1:CellsAt H ⟨r1,0,none⟩ [vi lo])(h2:CellsAt H ⟨r2,0,none⟩ [vi hi])(hst:P.still H.gh=false):LL.Zai P 173 #[vi n,.pointer (some ⟨r1,0,none⟩),.pointer (some ⟨r2,0,none⟩)] H fun v H'=>H=H'∧v=vb (!decide (lo<=n∧n<=hi)):=by
 refine IsN.m (isn c173) (args:=[vi n,.pointer (some ⟨r1,0,none⟩),.pointer (some ⟨r2,0,none⟩)]) rfl ?_
 unfold n173
 refine wkT ?_
 refine Zaf hst rfl h1 ?_
 refine wkT ?_
 refine Zaf hst rfl h2 ?_
 refine wkT ?_
 refine Zab (vs:=[vi n,vi lo,vi hi]) rfl (ZbI _ _ _) ?_
 rintro v _ ⟨rfl,rfl⟩
 refine wkT ?_
 exact⟨rfl,rfl⟩
theorem one_ok {bv v:Value}{b:Bk}{l:List Int}(lo hi:Int)(hb:BkAt H bv b)(hs:SlAt H v l)(hl:l.length<=1000000)(hst:P.still H.gh=false):LL.Zai P 131 #[bv,v,vi lo,vi hi] H fun v H'=>H.Sub H'∧v=vi (ZbG b l lo hi):=by
 obtain⟨pv,cv,rfl,hp,hc⟩:=hb
 refine IsN.m (isn c131) (args:=[.agg #[vi b.op,vi b.sl,pv,cv],v,vi lo,vi hi]) rfl ?_
 unfold n131
 refine wkT ?_
 refine Zca rfl hst fun r1 hr1=>?_
 refine wkT ?_
 refine Zca rfl hst fun r2 hr2=>?_
 have hst2:∀ o o',P.still ((H.ins r1 o).ins r2 o').gh=false:=fun _ _=>hst
 have hsub:H.Sub ((H.ins r1 (.cells (vi lo).cells 3)).ins r2 (.cells (vi hi).cells 3)):=(ZaV hr1).trans (ZaV hr2)
 refine wkT ?_
 refine Zal (hs.sub hsub) rfl ?_
 refine wkT ?_
 refine Zal (hp.sub hsub) rfl ?_
 refine wkT ?_
 refine wiT (fun h1=>?_) (fun h1=>?_)
 ·refine wkT ?_
  exact⟨hsub,by rw[ZbG,if_pos (by omega)];rfl⟩
 ·refine wkT ?_
  refine ZcB rfl rfl ?_
  refine wkT ?_
  refine Zab (vs:=[v,.func (.func 173) #[] #[.pointer (some ⟨r1,0,none⟩),.pointer (some ⟨r2,0,none⟩)]]) rfl (ZeX (f:=fun n=>!decide (lo<=n∧n<=hi)) (l:=l) (fun c hcm=>?_) (hs.sub hsub) hl (hst2 _ _)) ?_
  ·exact Zdh (by kernel_rfl) (one1_ok c lo hi (Zaw.inc (Zah hr2)) Zaw (hst2 _ _))
  rintro v _ ⟨rfl,rfl⟩
  refine wkT ?_
  have e:(l.any fun n=>!decide (lo<=n∧n<=hi))=!(l.all fun n=>decide (lo<=n∧n<=hi)):=by rw[List.any_eq_not_all_not];simp
  refine wiT (fun h2=>?_) (fun h2=>?_)
  ·refine wkT ?_
   refine⟨hsub,?_⟩
   rw[e]at h2
   rw[ZbG,if_neg (by omega),if_neg (by simpa using h2)]
   rfl
  ·refine wkT ?_
   refine⟨hsub,?_⟩
   rw[e]at h2
   rw[ZbG,if_neg (by omega),if_pos (by simpa using h2)]
   rfl
theorem ZdC {v:Value}{l:List Int}(hs:SlAt H v l)(hl:l.length<=4)(hst:P.still H.gh=false):LL.Zai P 132 #[v] H fun v H'=>H.Sub H'∧v=numV (n4of l):=by
 refine IsN.m (isn c132) (args:=[v]) rfl ?_
 unfold n132
 refine wkT ?_
 refine Zaz (tif t119) hst fun r hr=>?_
 have hst1:∀ o,P.still (H.ins r o).gh=false:=fun _=>hst
 refine wkT ?_
 refine Zjy (hi:=4) (k:=.i64) (und u119) (tif t3) (by omega) rfl (.inl ⟨rfl,rfl⟩) (by omega) ?_
 refine wkT ?_
 refine om_copy (cs:=[vi 0,vi 0,vi 0,vi 0]) (und u34) (tif t3) rfl rfl (hs.sub (ZaV hr)) hl rfl (Hp.ins_same _ _ _) (hst1 _) ?_
 rw[Zbk]
 have e:l.map vi++[vi 0,vi 0,vi 0,vi 0].drop l.length=(n4of l).cells:=by
  match l,hl with
  | [],_=>rfl
  | [a],_=>rfl
  | [a,b],_=>rfl
  | [a,b,c],_=>rfl
  | [a,b,c,d],_=>rfl
  | a :: b :: c :: d :: e :: l,h=>simp at h
 rw[e]
 refine wkT ?_
 refine Zam (hst1 _) rfl Zaw rfl ?_
 refine wkT ?_
 exact⟨ZaV hr,rfl⟩
theorem list_ok {bv:Value}{b:Bk}{n:N4}(hb:BkAt H bv b)(hle:b.pts.length<=4)(h1:1<=b.pts.length)(hst:P.still H.gh=false):LL.Zai P 138 #[bv,numV n] H fun v H'=>H.Sub H'∧∃ bb,Own H H' 3 v (n.list.take b.pts.length) bb:=by
 obtain⟨pv,cv,rfl,hp,hc⟩:=hb
 refine IsN.m (isn c138) (args:=[.agg #[vi b.op,vi b.sl,pv,cv],numV n]) rfl ?_
 unfold n138
 refine wkT ?_
 refine Zca rfl hst fun r hr=>?_
 have hst1:∀ o,P.still (H.ins r o).gh=false:=fun _=>hst
 refine wkT ?_
 refine Zal (hp.sub (ZaV hr)) rfl ?_
 refine wkT ?_
 refine Zjy (hi:=b.pts.length) (k:=.i64) (und u119) (tif t3) (by omega) rfl (.inr ⟨_,rfl,rfl⟩) (by omega) ?_
 refine wkT ?_
 have hlen:(n.list.take b.pts.length).length=b.pts.length:=by simp[N4.list];omega
 have hcl:CellsAt (H.ins r (.cells (numV n).cells 119)) ⟨r,0,none⟩ (encs (n.list.take b.pts.length)):=by
  refine⟨rfl,_,_,Hp.ins_same _ _ _,fun j hj=>?_⟩
  rw[ZbK]at hj ⊢
  simp only[List.length_map,hlen]at hj
  rw[List.getElem?_map,List.getElem?_take,if_pos hj]
  show (#[vi n.a,vi n.b,vi n.c,vi n.d]:Array Value)[0+j]? = Option.map vi [n.a,n.b,n.c,n.d][j]?
  match j,(show j<4 by omega) with
  | 0,_=>rfl
  | 1,_=>rfl
  | 2,_=>rfl
  | 3,_=>rfl
 refine Zab (vs:=[.slice (some ⟨r,0,none⟩) b.pts.length 4]) rfl (ZkY (l:=n.list.take b.pts.length) ⟨_,4,by rw[hlen],fun _=>⟨_,rfl,hcl⟩⟩ (by omega) (hst1 _)) ?_
 rintro v H2 ⟨hs2,h | ⟨bb,h⟩⟩
 ·rw[h.1]at hlen;simp at hlen;omega
 ·refine wkT ?_
  exact⟨(ZaV hr).trans hs2,bb,h.own,fun q e=>by
   have:=h.fresh q e
   cases hh:H q with
   | none=>rfl
   | some y=>rw[(ZaV hr).mem q y hh]at this;simp at this⟩
theorem Zou {bv:Value}{b:Bk}{x:Boat}(hb:BkAt H bv b)(ok:BkOk b)(okx:BtOk x)(h1:1<=b.pts.length)(okp:PtsOk b)(hg:(Zav b x).Sm)(hst:P.still H.gh=false):LL.Zai P 103 #[bv,ZaS x] H fun v H'=>H.Sub H'∧v=vb (Zhk b x):=by
 have hb0:=hb
 obtain⟨pv,cv,rfl,hp,hc⟩:=hb
 refine IsN.m (isn c103) (args:=[.agg #[vi b.op,vi b.sl,pv,cv],ZaS x]) rfl ?_
 unfold n103
 refine wkT ?_
 refine Zab (vs:=[.agg #[vi b.op,vi b.sl,pv,cv],ZaS x]) rfl (ZdG hb0 ok okx hst) ?_
 rintro v _ ⟨rfl,rfl⟩
 refine wkT ?_
 refine Zab (vs:=[.agg #[vi b.op,vi b.sl,pv,cv],numV (Zav b x)]) rfl (Zes hb0 ok.le h1 okp hg hst) ?_
 rintro v H2 ⟨hs2,rfl⟩
 have hst2:P.still H2.gh=false:=by rw[hs2.gh];exact hst
 refine kp_w hs2.gh ?_
 refine wkT ?_
 exact⟨hs2,rfl⟩
theorem Zht {x:Boat}(hst:P.still H.gh=false):LL.Zai P 92 #[ZaS x] H fun v H'=>H=H'∧v=vb x.slipped:=by
 refine IsN.m (isn c92) (args:=[ZaS x]) rfl ?_
 unfold n92
 refine wkT ?_
 refine Zjz (xs:=#[vi x.bf,vi x.by_]) (ys:=#[vi 0,vi 0]) g70 (fun Q g H hq=>eqP (.inl s70) Q hq) rfl rfl ?_
 refine wkT ?_
 exact⟨rfl,rfl⟩
theorem whole_ok {bv:Value}(hst:P.still H.gh=false):LL.Zai P 90 #[bv] H fun v H'=>H=H'∧v=vb true:=by
 refine IsN.m (isn c90) (args:=[bv]) rfl ?_
 unfold n90
 refine wkT ?_
 exact⟨rfl,rfl⟩
end
def JG (G:Hp)(A:Hp->Prop)(H:Hp):Prop:=∃ Hc F:Hp,H=Hc.join F∧Hc.Comp F∧Inc G F∧A Hc
theorem JG.up {G:Hp}{A:Hp->Prop}{H:Hp}(hA:Up A)(h:JG G A H):A H:=by
 obtain⟨Hc,F,rfl,h1,_,h3⟩:=h
 exact hA _ _ h1 h3
theorem JG.inc {G:Hp}{A:Hp->Prop}{H:Hp}(h:JG G A H):Inc G H:=by
 obtain⟨Hc,F,rfl,h1,h2,_⟩:=h
 exact fun b x hb=>Hp.join_right h1 (h2 b x hb)
theorem JG.of {G:Hp}{A B:Hp->Prop}{H:Hp}(h:JG G A H)(hB:∀ Hc,A Hc->B Hc){G':Hp}(hG:Inc G' G):JG G' B H:=by
 obtain⟨Hc,F,rfl,h1,h2,h3⟩:=h
 exact⟨Hc,F,rfl,h1,hG.trans h2,hB _ h3⟩
theorem JG.new {G:Hp}{A:Hp->Prop}{H:Hp}(h:JG G A H){r:Nat}(o:Obj)(hr:H r=none):JG (G.ins r o) A (H.ins r o):=by
 obtain⟨Hc,F,rfl,h1,h2,h3⟩:=h
 obtain⟨c1,c2⟩:=Hp.join_none.1 hr
 refine⟨Hc,F.ins r o,(Hp.join_ins c1).symm,⟨fun b x y hx hy=>?_,h1.gh⟩,fun b x hb=>?_,h3⟩
 ·by_cases e:b=r
  ·subst e;rw[c1]at hx;simp at hx
  ·rw[Hp.ins_other _ _ e]at hy;exact h1.mem b x y hx hy
 ·by_cases e:b=r
  ·subst e;rw[Hp.ins_same]at hb ⊢;exact hb
  ·rw[Hp.ins_other _ _ e]at hb ⊢;exact h2 b x hb
theorem JG.put {G:Hp}{A:Hp->Prop}{H:Hp}(h:JG G A H){r:Nat}{o:Obj}(o':Obj)(hr:G r=some (o,true)):JG (G.ins r o') A (H.ins r o'):=by
 obtain⟨Hc,F,rfl,h1,h2,h3⟩:=h
 have c2:=h2 r _ hr
 have c1:Hc r=none:=by
  cases hh:Hc r with
  | none=>rfl
  | some x=>have:=h1.mem r x _ hh c2;rw[this.1]at this;simp at this
 refine⟨Hc,F.ins r o',(Hp.join_ins c1).symm,⟨fun b x y hx hy=>?_,h1.gh⟩,fun b x hb=>?_,h3⟩
 ·by_cases e:b=r
  ·subst e;rw[c1]at hx;simp at hx
  ·rw[Hp.ins_other _ _ e]at hy;exact h1.mem b x y hx hy
 ·by_cases e:b=r
  ·subst e;rw[Hp.ins_same]at hb ⊢;exact hb
  ·rw[Hp.ins_other _ _ e]at hb ⊢;exact h2 b x hb
theorem JG.sub {G:Hp}{A:Hp->Prop}{H H':Hp}(h:JG G A H)(hs:H.Sub H'):JG G A H':=by
 classical
 obtain⟨Hc,F,rfl,h1,h2,h3⟩:=h
 refine⟨Hc,⟨fun b=>if F b=none then (if Hc b=none then H' b else none) else F b,F.gh⟩,Hp.ext' (fun b=>?_) ?_,⟨fun b x y hx hy=>?_,h1.gh⟩,fun b x hb=>?_,h3⟩
 ·show H' b=_
  simp only[Hp.join_at]
  cases hc:Hc b with
  | some x=>exact hs.mem b x (Hp.join_left hc)
  | none=>
   cases hf:F b with
   | none=>simp
   | some y=>simp;exact hs.mem b y (by simp[Hp.join_at,hc,hf])
 ·rw[hs.gh];rfl
 ·have hy:(if F b=none then (if Hc b=none then H' b else none) else F b)=some y:=hy
  rw[hx]at hy
  cases hf:F b with
  | none=>simp[hf]at hy
  | some z=>simp[hf]at hy;subst hy;exact h1.mem b x z hx hf
 ·show (if F b=none then (if Hc b=none then H' b else none) else F b)=some x
  rw[h2 b x hb];simp
theorem JG.call {P:Prg}{y:Value}{args:Array Value}{G:Hp}{A:Hp->Prop}{B:Value->Hp->Prop}{H:Hp}(hy:∀ H,A H->CallV P y args H B)(h:JG G A H):CallV P y args H (fun v H'=>JG G (B v) H'):=by
 obtain⟨Hc,F,rfl,h1,h2,h3⟩:=h
 refine((hy Hc h3).frame h1).mono ?_
 rintro v H' ⟨H'',rfl,h4,h5⟩
 exact⟨H'',F,rfl,h4,h2,h5⟩
theorem JG.closed {G:Hp}{A:Hp->Prop}:Up (JG G A):=by
 rintro H J hc ⟨Hc,F,rfl,h1,h2,h3⟩
 exact⟨Hc,F.join J,Hp.join_assoc _ _ _,h1.join_r hc.of_join_left,h2.trans (Za2 F J),h3⟩
theorem Zk0 {xs rest:List (List Value)}{I:Nat->Hp->Prop}(hI:∀ n,Up (I n)):Up (Seq xs I rest):=by
 rintro H J hc ⟨p,h1,h2,h3⟩
 exact⟨p,h1,h2,hI p H J hc h3⟩
theorem Zbl {H:Hp}{a:Addr}{cs:List Value}(h:CellsAt H a cs){j:Nat}{v:Value}(hj:cs[j]? = some v):CellsAt H (a.add j) [v]:=by
 obtain⟨h1,o,p,h2,h3⟩:=h
 have hl:j<cs.length:=(List.getElem?_eq_some_iff.1 hj).1
 refine⟨ZdN h1 _,o,p,by rw[ZbY];exact h2,fun k hk=>?_⟩
 have:k=0:=by simpa using hk
 subst this
 rw[Zdj,Nat.add_zero,h3 j hl,hj]
 rfl
def spanR (f:Int->List Boat)(hi:Int):Nat->List Boat
 | 0=>[]
 | c+1=>f (hi-c)++spanR f hi c
def ptAt (b:Bk)(i:Nat):SPt:=b.pts.getD i ⟨0,0,0,0,0⟩
def boatsFrom (b:Bk):Nat->N4->List Boat
 | 0,m=>((Zat b).map fun k=>(⟨m,k.bf,k.by_⟩:Boat)).filter (Zdl b)
 | r+1,m=>spanR (fun v=>boatsFrom b r (m.put (b.pts.length-(r+1)) v)) (ptAt b (b.pts.length-(r+1))).mh ((ptAt b (b.pts.length-(r+1))).mh-(ptAt b (b.pts.length-(r+1))).ml+1).toNat
def Zae (b:Bk):List Boat:=boatsFrom b b.pts.length ⟨0,0,0,0⟩
def ZfQ (x:Boat):List Value:=[ZaS x]
end Go.Proofs
end
