/- proofs about Leango given: part Sl0; made by a program out of the longer texts in wip -/
import Derived.Test.YtamdhefhhdgjbaaGreatDoorP44
set_option linter.all false
section
namespace Go.LL
section
variable  {P:Prg}{d:Option Nat}{r:List NI}{op:NOp}{Q:NSt->Hp->Prop}{next:NSt->Hp->Prop}{σ:NSt}{H:Hp}{x y z:Operand}{v:Value}
variable  {l:List (NI×Option Bool)}
theorem fm_k {f:Option Bool}{t:Nat}{b:Bool}(hst:P.still H.gh=false)(e:σ.env t=some undef)(h:Zbv P l Q (σ.unset d) H):Zbv P ((⟨some (t,b),d,op⟩,f) :: l) Q σ H:=by
 cases b<;>(simp only[Zbv,e,undef];exact⟨hst,h⟩)
variable  {Qe:Ex->NSt->Hp->Prop}{a b c:Zai}
end
section
variable  {P:Prg}{σ:NSt}{H:Hp}{Qe:Ex->NSt->Hp->Prop}{b:Zai}
theorem for_next {n j:Nat}{I:Nat->Hp->Prop}{env:Nat->List (Nat×Value)}{box:Nat->List (Nat×List Value)}{σ':NSt}{ds:List Deferred}(hj:j<n)(hI:I (j+1) H)(he:LeE (env (j+1)) σ')(hb:LeB (box (j+1)) σ')(hd:σ'.defs=ds) :
  ∃ j':{ j:Nat // j<=n },n-j'.1<n-j∧I j'.1 H∧LeE (env j'.1) σ'∧LeB (box j'.1) σ'∧σ'.defs=ds:=⟨⟨j+1,hj⟩,by show n-(j+1)<n-j;omega,hI,he,hb,hd⟩
end
end Go.LL
end
section
open Go Go.LL Go.Z
namespace Go.Proofs
def n52:Zai:=(sq [o 2 (.lbox 2 [2] (t 0)),o 4 (.lzero 4 [4] [z0,z0,s0,s0])] (sq [l 6 2 4 2,o 5 (.lzero 5 [5,8] [z0,z0,s0,s0]),ls 5 4 5 6] (sq [m 7 1,f 8 1 5,ls 5 1 8 7] (sq [l 9 5 4 5,ls 4 4 4 9] .ret))))
def r52:List NRes:=[(.var 4 4 (some 4))]
theorem c52:IsN Tryz.prog 52 2 n52 r52:=isq [(2,2),(4,4),(5,5),(8,5)] Tryz.func52
def n57:Zai:=(sq [o 2 (.mov (.const s0))] (sq [o 3 (.mov (.const s0))] (.seq (sq [mi 4 0] (.block 0 (.loop (.seq (sq [m 6 4,m 7 0,le 8 7,b 9 .lss 6 8] (.cond (t 9) .skip (.exit 0))) (.seq (.block 1 (sq [mi 5 0] (.seq (.block 2 (.loop (.seq (.seq (.drawn [(m 12 5,none),(m 13 3,none),(le 14 13,none),(b 15 .lss 12 14,none),(m 16 15,none),(mt 16 17 3,none),(mt 16 18 5,none),(gt 16 19 (.iadr 1 (t 17) (t 18)),none),(gt 16 20 (.ld none (t 19)),none),(mt 16 21 0,none),(mt 16 22 4,none),(gt 16 23 (.iadr 1 (t 21) (t 22)),none),(gt 16 24 (.ld none (t 23)),none),(gt 16 25 (.bin .lss (t 20) (t 24)),none),(pa 26 16 25,none)]) (.cond (t 26) .skip (.exit 2))) (.block 3 (.ops [m 27 5,bk 28 .add 27 1,m 5 28]))))) (.seq (.drawn [(m 29 5,none),(m 30 3,none),(le 31 30,none),(b 32 .eql 29 31,none),(m 33 32,none),(mf 33 34 3,none),(mf 33 35 5,none),(gf 33 36 (.iadr 1 (t 34) (t 35)),none),(gf 33 37 (.ld none (t 36)),none),(mf 33 38 0,none),(mf 33 39 4,none),(gf 33 40 (.iadr 1 (t 38) (t 39)),none),(gf 33 41 (.ld none (t 40)),none),(gf 33 42 (.bin .neq (t 37) (t 41)),none),(po 43 33 42,none)]) (.cond (t 43) (.drawn [(m 44 3,none),(m 45 5,none),(o 46 (.pur (.slice 34 (t 44) none (some (t 45)) none) 34),none),(m 47 0,none),(m 48 4,none),(ia 49 1 47 48,none),(ld 50 49,none),(m 52 3,none),(m 53 5,none),(o 54 (.pur (.slice 34 (t 52) (some (t 53)) none none) 34),none),(o 51 (.buildS 3 1 [z0] [(0,(1,(t 50)))]),(some false)),(o 55 (.raw (.call (.mk (.builtin .append) #[(t 51),(t 54)] #[34,34])) 34),(some false)),(o 56 (.raw (.call (.mk (.builtin .append) #[(t 46),(t 55)] #[34,34])) 34),none),(m 3 56,none)]) .skip))))) (.ops [m 10 4,bk 11 .add 10 1,m 4 11])))))) (sq [m 57 3,m 2 57] .ret))))
def r57:List NRes:=[(.slot 2)]
theorem c57:IsN Tryz.prog 57 1 n57 r57:=isq [] Tryz.func57
end Go.Proofs
end
section
open Go Go.LL Go.Z
namespace Go.Proofs
def n43:Zai:=(sq [o 2 (.lbox 2 [2,7,13,20,29,38,44,56,62] (t 0)),o 3 (.lbox 3 [3,9,15,23,32,49,67] (t 1)),m0 4] (.seq (sq [f 7 0 2,ln 8 2 7,f 9 0 3,ln 10 3 9,b 11 .neq 8 10,m 12 11,gf 12 13 (.lfadr 1 2),gf 12 14 (.lld 2 none 13),gf 12 15 (.lfadr 1 3),gf 12 16 (.lld 3 none 15),gf 12 17 (.bin .neq (t 14) (t 16)),po 18 12 17,m 19 18,gf 19 20 (.lfadr 2 2),gf 19 21 (.lld 2 none 20),gf 19 22 (.len (t 21)),gf 19 23 (.lfadr 2 3),gf 19 24 (.lld 3 none 23),gf 19 25 (.len (t 24)),gf 19 26 (.bin .neq (t 22) (t 25)),po 27 19 26,m 28 27,gf 28 29 (.lfadr 3 2),gf 28 30 (.lld 2 none 29),gf 28 31 (.len (t 30)),gf 28 32 (.lfadr 3 3),gf 28 33 (.lld 3 none 32),gf 28 34 (.len (t 33)),gf 28 35 (.bin .neq (t 31) (t 34)),po 36 28 35] (.cond (t 36) (sq [m0 4] .ret) .skip)) (.seq (sq [mi 5 0] (.block 0 (.loop (.seq (sq [m 37 5,f 38 2 2,ln 39 2 38,le 40 39,b 41 .lss 37 40] (.cond (t 41) .skip (.exit 0))) (.seq (.block 1 (.seq (.drawn [(f 44 2 2,none),(ln 45 2 44,none),(m 46 5,none),(ia 47 5 45 46,none),(lm 48 5 47,none),(f 49 2 3,none),(ln 50 3 49,none),(m 51 5,none),(ia 52 5 50 51,none),(lm 53 5 52,none),(o 54 (.pur (.binOp .neq 59 (t 48) (t 53) 59) 4),none)]) (.cond (t 54) (sq [m0 4] .ret) .skip))) (.ops [m 42 5,bk 43 .add 42 1,m 5 43])))))) (.seq (sq [mi 6 0] (.block 2 (.loop (.seq (sq [m 55 6,f 56 3 2,ln 57 2 56,le 58 57,b 59 .lss 55 58] (.cond (t 59) .skip (.exit 2))) (.seq (.block 3 (.seq (.drawn [(f 62 3 2,none),(ln 63 2 62,none),(m 64 6,none),(ia 65 3 63 64,none),(lm 66 3 65,none),(f 67 3 3,none),(ln 68 3 67,none),(m 69 6,none),(ia 70 3 68 69,none),(lm 71 3 70,none),(o 72 (.pur (.binOp .neq 51 (t 66) (t 71) 51) 4),none)]) (.cond (t 72) (sq [m0 4] .ret) .skip))) (.ops [m 60 6,bk 61 .add 60 1,m 6 61])))))) (sq [m1 4] .ret)))))
def r43:List NRes:=[(.slot 4)]
theorem c43:IsN Tryz.prog 43 2 n43 r43:=isq [(2,2),(3,3),(7,2),(9,3),(13,2),(15,3),(20,2),(23,3),(29,2),(32,3),(38,2),(44,2),(49,3),(56,2),(62,2),(67,3)] Tryz.func43
end Go.Proofs
end
section
open Go Go.LL Go.Z
namespace Go.Proofs
def n54:Zai:=(sq [mi 4 0] (.seq (sq [m 5 0,bk 6 .eql 5 0] (.cond (t 6) (sq [mi 4 2] .ret) .skip)) (.seq (sq [m 7 0,m 8 1,b 9 .eql 7 8] (.cond (t 9) (sq [mi 4 1] .ret) .skip)) (sq [mi 4 0] .ret))))
def r54:List NRes:=[(.slot 4)]
theorem c54:IsN Tryz.prog 54 2 n54 r54:=isq [] Tryz.func54
end Go.Proofs
end
section
open Go Go.LL Go.Z
namespace Go.Proofs
def n55:Zai:=(sq [o 3 (.lbox 3 [3] (t 1)),m0 4] (.seq (sq [mi 5 0] (.block 0 (.loop (.seq (sq [m 6 5,m 7 0,le 8 7,b 9 .lss 6 8] (.cond (t 9) .skip (.exit 0))) (.seq (.block 1 (.seq (.drawn [(m 12 0,none),(m 13 5,none),(ia 14 2 12 13,none),(lm 15 2 14,none),(l 16 3 2 3,none),(o 17 (.pur (.binOp .eql 70 (t 15) (t 16) 70) 4),none)]) (.cond (t 17) (sq [m1 4] .ret) .skip))) (.ops [m 10 5,bk 11 .add 10 1,m 5 11])))))) (sq [m0 4] .ret)))
def r55:List NRes:=[(.slot 4)]
theorem c55:IsN Tryz.prog 55 2 n55 r55:=isq [(3,3)] Tryz.func55
end Go.Proofs
end
section
open Go Go.LL Go.Z
namespace Go.Proofs
def n56:Zai:=(sq [o 1 (.lbox 1 [1,7,13,17] (t 0)),o 2 (.mov (.const s0))] (sq [o 3 (.mov (.const s0))] (.seq (sq [mi 4 1] (.block 0 (.loop (.seq (sq [m 6 4,f 7 2 1,ln 8 1 7,le 9 8,b 10 .lss 6 9] (.cond (t 10) .skip (.exit 0))) (.seq (.block 1 (sq [f 13 1 1,ln 14 1 13,o 15 (.raw (.unOp .neg 3 (t 14)) 3),m 5 15] (.block 2 (.loop (.seq (sq [m 16 5,f 17 1 1,ln 18 1 17,b 19 .leq 16 18] (.cond (t 19) .skip (.exit 2))) (.seq (.block 3 (sq [m 22 5,bk 23 .neq 22 0] (.cond (t 23) (.ops [m 24 3,m 25 4,m 26 5,o 27 (.build [z0,z0] [(0,(1,(t 25))),(1,(1,(t 26)))]),o 28 (.buildS 70 1 [z0,z0] [(0,(2,(t 27)))]),o 29 (.raw (.call (.mk (.builtin .append) #[(t 24),(t 28)] #[38,38])) 38),m 3 29]) .skip))) (.ops [m 20 5,bk 21 .add 20 1,m 5 21]))))))) (.ops [m 11 4,bk 12 .add 11 1,m 4 12])))))) (sq [m 30 3,m 2 30] .ret))))
def r56:List NRes:=[(.slot 2)]
theorem c56:IsN Tryz.prog 56 1 n56 r56:=isq [(1,1),(7,1),(13,1),(17,1)] Tryz.func56
end Go.Proofs
end
section
open Go Go.LL
namespace Go.Proofs
theorem spf3 {p:Program}{t:TypeId}{n1 n2 n3:String}{t1 t2 t3 o1 o2 o3:Nat}{b:Bool}(h:spf p t=some ([(n1,t1,o1),(n2,t2,o2),(n3,t3,o3)],b)):∃ f1 f2 f3:Field,p.underlying t=some (.struct #[f1,f2,f3])∧(f1.name=n1∧f1.type=t1∧f1.offset=o1)∧(f2.name=n2∧f2.type=t2∧f2.offset=o2)∧(f3.name=n3∧f3.type=t3∧f3.offset=o3)∧p.stoodInHeld t=b:=by
 unfold spf at h
 split at h
 ·rename_i fs hu
  obtain⟨fs⟩:=fs
  simp only[Option.some.injEq,Prod.mk.injEq]at h
  obtain⟨h,h2⟩:=h
  match fs,h with
  | [f1,f2,f3],h=>
   simp only[List.map_cons,List.map_nil,List.cons.injEq,Prod.mk.injEq]at h
   exact⟨f1,f2,f3,hu,h.1,h.2.1,h.2.2.1,h2⟩
 ·simp at h
theorem s51:spf Tryz.prog 51=some ([("Point",3,0),("Gap",49,1)],false):=by kernel_rfl
theorem s59:spf Tryz.prog 59=some ([("Mark",49,0),("Board",49,2),("Width",3,4)],false):=by kernel_rfl
theorem ui4:Tryz.prog.underlying 4=some .bool:=by kernel_rfl
theorem a49:Zb7 Tryz.prog 49=some (some 2):=by kernel_rfl
section
variable  {P:Prg}[Tz P]{H:Hp}{g:Bool}{d:Nat}
theorem partA {t n:Nat}{cs:Array Value}{off:Nat}(h:Zb7 Tryz.prog t=some (some n))(Q:Value->Bool->Hp->Prop):wpL P.toPQ (part t cs off) Q g H↔Q (.agg (cs.extract off (off+n))) g H:=by
 obtain⟨i,h1,h2,h3⟩:=ZcM (agf (P:=P) h)
 simp only[part,Zaa,h3,if_true,Zap h1,h2,Zac]
theorem WbB {t:TypeId}(hs:spf Tryz.prog t=some ([("Before",3,0),("By",3,1)],false)∨spf Tryz.prog t=some ([("Low",3,0),("High",3,1)],false)){a b c e:Int}(Q:Bool->Bool->Hp->Prop):wpL P.toPQ (Op.equalIn (d+1+1) t (.agg #[vi a,vi b]) (.agg #[vi c,vi e])) Q g H↔Q (decide (a=c∧b=e)) g H:=by
 refine⟨fun h=>?_,eqP hs Q⟩
 have p1:∀ (x y:Int) (Q:Value->Bool->Hp->Prop) g H,wpL P.toPQ (part 3 #[vi x,vi y] 0) Q g H↔Q (vi x) g H:=fun x y Q g H=>ZgA rfl Q
 have p2:∀ (x y:Int) (Q:Value->Bool->Hp->Prop) g H,wpL P.toPQ (part 3 #[vi x,vi y] 1) Q g H↔Q (vi y) g H:=fun x y Q g H=>ZgA rfl Q
 rcases hs with hs | hs
 all_goals
  obtain⟨f1,f2,hu,⟨n1,t1,o1⟩,⟨n2,t2,o2⟩,hs⟩:=spf2 (p:=P.toProgram) (by rw[Tz.prog (P:=P)];exact hs)
  rw[Op.equalIn]at h
  simp only[Zaa,Zad hu,ZaU,hs,Bool.false_eq_true,if_false,Zac]at h
  simp only[n1,n2,t1,t2,o1,o2,Zaa,List.forIn_toArray,List.forIn_cons,List.forIn_nil]at h
  by_cases h1:a=c<;>by_cases h2:b=e<;>simp[p1,p2,eq3,Zaa,Zac,h1,h2]at h ⊢<;>exact h
def ckEq (a b:SCk):Bool:=decide (a.p=b.p∧a.gl=b.gl∧a.gh=b.gh)
def ptEq (a b:SPt):Bool:=decide (a.ml=b.ml∧a.mh=b.mh∧a.bl=b.bl∧a.bh=b.bh∧a.w=b.w)
theorem eq51 {a b:SCk}(Q:Bool->Bool->Hp->Prop)(hq:Q (ckEq a b) g H):wpL P.toPQ (Op.equalIn (d+1+1+1) 51 (.agg #[vi a.p,vi a.gl,vi a.gh]) (.agg #[vi b.p,vi b.gl,vi b.gh])) Q g H:=by
 have p1:∀ (x y z:Int) (Q:Value->Bool->Hp->Prop) g H,wpL P.toPQ (part 3 #[vi x,vi y,vi z] 0) Q g H↔Q (vi x) g H:=fun x y z Q g H=>ZgA rfl Q
 have p2:∀ (x y z:Int) (Q:Value->Bool->Hp->Prop) g H,wpL P.toPQ (part 49 #[vi x,vi y,vi z] 1) Q g H↔Q (.agg #[vi y,vi z]) g H:=fun x y z Q g H=>partA a49 Q
 obtain⟨f1,f2,hu,⟨n1,t1,o1⟩,⟨n2,t2,o2⟩,hs⟩:=spf2 (p:=P.toProgram) (by rw[Tz.prog (P:=P)];exact s51)
 rw[Op.equalIn]
 simp only[Zaa,Zad hu,ZaU,hs,Bool.false_eq_true,if_false,Zac]
 simp only[n1,n2,t1,t2,o1,o2,Zaa,List.forIn_toArray,List.forIn_cons,List.forIn_nil]
 unfold ckEq at hq
 by_cases h1:a.p=b.p<;>by_cases h2:a.gl=b.gl<;>by_cases h3:a.gh=b.gh<;>simp[p1,p2,eq3,WbB (.inr s49),Zaa,Zac,h1,h2,h3]at hq ⊢<;>exact hq
theorem eq59 {a b:SPt}(Q:Bool->Bool->Hp->Prop)(hq:Q (ptEq a b) g H):wpL P.toPQ (Op.equalIn (d+1+1+1) 59 (.agg #[vi a.ml,vi a.mh,vi a.bl,vi a.bh,vi a.w]) (.agg #[vi b.ml,vi b.mh,vi b.bl,vi b.bh,vi b.w])) Q g H:=by
 have p1:∀ (x y z u v:Int) (Q:Value->Bool->Hp->Prop) g H,wpL P.toPQ (part 49 #[vi x,vi y,vi z,vi u,vi v] 0) Q g H↔Q (.agg #[vi x,vi y]) g H:=fun x y z u v Q g H=>partA a49 Q
 have p2:∀ (x y z u v:Int) (Q:Value->Bool->Hp->Prop) g H,wpL P.toPQ (part 49 #[vi x,vi y,vi z,vi u,vi v] 2) Q g H↔Q (.agg #[vi z,vi u]) g H:=fun x y z u v Q g H=>partA a49 Q
 have p3:∀ (x y z u v:Int) (Q:Value->Bool->Hp->Prop) g H,wpL P.toPQ (part 3 #[vi x,vi y,vi z,vi u,vi v] 4) Q g H↔Q (vi v) g H:=fun x y z u v Q g H=>ZgA rfl Q
 obtain⟨f1,f2,f3,hu,⟨n1,t1,o1⟩,⟨n2,t2,o2⟩,⟨n3,t3,o3⟩,hs⟩:=spf3 (p:=P.toProgram) (by rw[Tz.prog (P:=P)];exact s59)
 rw[Op.equalIn]
 simp only[Zaa,Zad hu,ZaU,hs,Bool.false_eq_true,if_false,Zac]
 simp only[n1,n2,n3,t1,t2,t3,o1,o2,o3,Zaa,List.forIn_toArray,List.forIn_cons,List.forIn_nil]
 unfold ptEq at hq
 have e1:(a.ml=b.ml∧a.mh=b.mh∧a.bl=b.bl∧a.bh=b.bh∧a.w=b.w)↔((a.ml=b.ml∧a.mh=b.mh)∧(a.bl=b.bl∧a.bh=b.bh)∧a.w=b.w):=by constructor<;>(intro h;simp_all)
 simp only[e1]at hq
 by_cases h1:(a.ml=b.ml∧a.mh=b.mh)<;>by_cases h2:(a.bl=b.bl∧a.bh=b.bh)<;>by_cases h3:a.w=b.w<;>simp only[h1,h2,h3,and_self,and_true,true_and,and_false,false_and,decide_true,decide_false]at hq<;>simp[p1,p2,p3,eq3,WbB (.inr s49),Zaa,Zac,h1,h2,h3]<;>exact hq
end
end Go.Proofs
end
section
open Go Go.LL
namespace Go.Proofs
theorem g51:eqGB Tryz.prog 51=false:=by kernel_rfl
theorem g59:eqGB Tryz.prog 59=false:=by kernel_rfl
section
variable  {P:Prg}[Tz P]{H:Hp}{d:Option Nat}{next:NSt->Hp->Prop}{σ:NSt}{x y:Operand}{ty t2:TypeId}{v:Value}
theorem eq4_w' {a b:Bool}(d:Nat)(Q:Bool->Bool->Hp->Prop)(g:Bool)(H:Hp)(hq:Q (a == b) g H):wpL P.toPQ (Op.equalIn (d+1) 4 (vb a) (vb b)) Q g H:=by
 simp only[Op.equalIn,Zaa,Zad (und (P:=P) ui4),Zac]
 exact hq
theorem eq4_w {a b:Bool}(Q:Bool->Bool->Hp->Prop)(g:Bool)(H:Hp)(hq:Q (a == b) g H):wpL P.toPQ (Op.equalIn (9999+1) 4 (vb a) (vb b)) Q g H:=eq4_w' 9999 Q g H hq
theorem Wbd {a b:Bool}(e1:σ.get x=some (vb a))(e2:σ.get y=some (vb b))(h:next (σ.set d (vb (a != b))) H):(NOp.pur (.binOp .neq 4 x y t2) ty).m P d next σ H:=by
 refine Zcb (by simp[Op.operands,e1,e2]) ?_ h
 have:execOp (fun x=>(σ.get x).getD undef) (bare (.binOp .neq 4 x y t2) ty)=(do let v <-(do eqGuard .neq 4 x y (vb a) (vb b);binOp .neq 4 (vb a) (vb b));pure (.value v)):=by simp[execOp,bare,e1,e2]
 rw[this]
 refine Zgz fun Q g H hq=>?_
 simp only[eqGuard,Zaa,Zac]
 exact Zaa.2 (eq4_w _ _ _ hq)
end
end Go.Proofs
end
section
open Go Go.LL Go.Z
namespace Go.Proofs
def n7:Zai:=(sq [o 1 (.lbox 1 [1] (t 0)),m0 2] (.seq (sq [l 17 1 4 1,c1 18 48 17,o 19 (.not (t 18))] (.cond (t 19) (sq [c0 20 18,m 2 20] .ret) .skip)) (sq [l 22 1 4 1,c1 23 19 22,m 21 23,x 24 21 0,x 25 21 1,m 3 24,m 4 25] (sq [l 27 1 4 1,o 28 (.call 52 [(t 27),(k 0)]),c1 29 19 28,m 26 29,x 30 26 0,x 31 26 1,m 5 30,m 6 31] (sq [l 33 1 4 1,o 34 (.call 46 [(t 33),(k 0)]),m 32 34,x 35 32 0,x 36 32 1,o 7 (.lzero 7 [7] [z0,z0,s0,s0]),ls 7 4 7 35,m 8 36] (sq [l 38 1 4 1,c1 39 21 38,m 37 39,x 40 37 0,x 41 37 1,m 9 40,m 10 41] (sq [l 43 1 4 1,c1 44 23 43,m 42 44,x 45 42 0,x 46 42 1,m 11 45,m 12 46] (sq [l 48 1 4 1,c1 49 26 48,m 47 49,x 50 47 0,x 51 47 1,m 13 50,m 14 51] (.seq (sq [m 52 4,bk 53 .neq 52 0,m 54 53,mf 54 55 6,gf 54 56 (.bin .neq (t 55) (k 0)),po 57 54 56,m 58 57,mf 58 59 5,mf 58 60 3,gf 58 61 (.call 53 [(t 59),(k 0),(t 60)]),gf 58 62 (.not (t 61)),po 63 58 62,m 64 63,mf 64 65 8,gf 64 66 (.bin .eql (t 65) (k 0)),mf 64 67 5,gf 64 68 (.bin .gtr (t 67) (k 0)),gf 64 69 (.pur (.binOp .neq 4 (t 66) (t 68) 4) 4),po 70 64 69,m 71 70,mf 71 72 10,mf 71 73 12,gf 71 74 (.bin .neq (t 72) (t 73)),po 75 71 74,m 76 75,mf 76 77 12,mf 76 78 14,gf 76 79 (.bin .neq (t 77) (t 78)),po 80 76 79,m 81 80,mf 81 82 10,gf 81 83 (.bin .eql (t 82) (k 0)),mf 81 84 3,gf 81 85 (.bin .gtr (t 84) (k 0)),gf 81 86 (.pur (.binOp .neq 4 (t 83) (t 85) 4) 4),po 87 81 86] (.cond (t 87) (sq [m0 2] .ret) .skip)) (.seq (.seq (.drawn [(m 88 8,none),(bk 89 .eql 88 0,none),(m 90 89,none),(gt 90 91 (.lld 7 (some 4) 7),none),(gt 90 92 (.lld 1 (some 4) 1),none),(gt 90 93 (.call 52 [(t 92),(k 0)]),(some false)),(gt 90 94 (.call 43 [(t 91),(t 93)]),none),(gt 90 95 (.not (t 94)),none),(pa 96 90 95,none),(m 97 96,none),(mf 97 98 8,none),(gf 97 99 (.bin .neq (t 98) (k 0)),none),(mf 97 100 99,none),(mt 100 101 8,none),(gt 100 102 (.bin .neq (t 101) (k 9)),none),(gf 97 103 (.pick (t 100) (t 102) k0),none),(po 104 97 103,none)]) (.cond (t 104) (sq [m0 2] .ret) .skip)) (.seq (sq [m 105 10,bk 106 .neq 105 0] (.cond (t 106) (sq [m 107 10,bk 108 .eql 107 9,m 109 108,mt 109 110 11,gt 109 111 (.len (t 110)),mt 109 112 13,gt 109 113 (.len (t 112)),gt 109 114 (.bin .add (t 111) (t 113)),gt 109 115 (.bin .eql (t 114) (k 0)),pa 116 109 115,m 117 116,gt 117 118 (.call 18 []),pa 119 117 118,m 2 119] .ret) .skip)) (.seq (sq [m 120 9,m 121 3,m 122 5,b 123 .sub 121 122,m 124 3,c2 125 54 123 124,b 126 .neq 120 125,m 127 126,mf 127 128 13,gf 127 129 (.len (t 128)),gf 127 130 (.bin .eql (t 129) (k 0)),mf 127 131 5,mf 127 132 3,gf 127 133 (.bin .eql (t 131) (t 132)),gf 127 134 (.pur (.binOp .neq 4 (t 130) (t 133) 4) 4),po 135 127 134,m 136 135,mf 136 137 11,gf 136 138 (.len (t 137)),gf 136 139 (.bin .eql (t 138) (k 0)),mf 136 140 5,mf 136 141 3,gf 136 142 (.bin .eql (t 140) (t 141)),gf 136 143 (.pur (.binOp .neq 4 (t 139) (t 142) 4) 4),po 144 136 143,m 145 144,mf 145 146 13,gf 145 147 (.len (t 146)),gf 145 148 (.bin .gtr (t 147) (k 50)),po 149 145 148] (.cond (t 149) (sq [m0 2] .ret) .skip)) (sq [o 15 (.mov (.const s0))] (.seq (sq [mi 16 0] (.block 0 (.loop (.seq (sq [m 150 16,m 151 13,le 152 151,b 153 .lss 150 152] (.cond (t 153) .skip (.exit 0))) (.seq (.block 1 (.seq (.seq (.drawn [(l 156 1 4 1,none),(m 158 13,none),(m 159 16,none),(ia 160 2 158 159,none),(lm 161 2 160,none),(c1 157 56 156,(some true)),(c2 162 55 157 161,none),(o 163 (.not (t 162)),none),(m 164 163,none),(mf 164 165 16,none),(gf 164 166 (.bin .gtr (t 165) (k 0)),none),(mf 164 167 166,none),(mt 167 168 13,none),(mt 167 169 16,none),(gt 167 170 (.iadr 2 (t 168) (t 169)),none),(gt 167 171 (.fadr 0 (t 170)),none),(gt 167 172 (.ld none (t 171)),none),(mt 167 173 13,none),(mt 167 174 16,none),(gt 167 175 (.bin .sub (t 174) (k 1)),none),(gt 167 176 (.iadr 2 (t 173) (t 175)),none),(gt 167 177 (.fadr 0 (t 176)),none),(gt 167 178 (.ld none (t 177)),none),(gt 167 179 (.bin .lss (t 172) (t 178)),none),(mt 167 180 179,none),(mf 180 181 13,none),(mf 180 182 16,none),(gf 180 183 (.iadr 2 (t 181) (t 182)),none),(gf 180 184 (.fadr 0 (t 183)),none),(gf 180 185 (.ld none (t 184)),none),(mf 180 186 13,none),(mf 180 187 16,none),(gf 180 188 (.bin .sub (t 187) (k 1)),none),(gf 180 189 (.iadr 2 (t 186) (t 188)),none),(gf 180 190 (.fadr 0 (t 189)),none),(gf 180 191 (.ld none (t 190)),none),(gf 180 192 (.bin .eql (t 185) (t 191)),none),(mf 180 193 192,none),(mt 193 194 13,none),(mt 193 195 16,none),(gt 193 196 (.iadr 2 (t 194) (t 195)),none),(gt 193 197 (.fadr 1 (t 196)),none),(gt 193 198 (.ld none (t 197)),none),(mt 193 199 13,none),(mt 193 200 16,none),(gt 193 201 (.bin .sub (t 200) (k 1)),none),(gt 193 202 (.iadr 2 (t 199) (t 201)),none),(gt 193 203 (.fadr 1 (t 202)),none),(gt 193 204 (.ld none (t 203)),none),(gt 193 205 (.bin .leq (t 198) (t 204)),none),(gf 180 206 (.pick (t 193) (t 205) k0),none),(gt 167 207 (.pick (t 180) k1 (t 206)),none),(gf 164 208 (.pick (t 167) (t 207) k0),none),(po 209 164 208,none)]) (.cond (t 209) (sq [m0 2] .ret) .skip)) (.ops [m 210 15,m 211 13,m 212 16,ia 213 2 211 212,o 214 (.fadr 0 (t 213)),ld 215 214,o 216 (.buildS 3 1 [z0] [(0,(1,(t 215)))]),o 217 (.raw (.call (.mk (.builtin .append) #[(t 210),(t 216)] #[34,34])) 34),m 15 217]))) (.ops [m 154 16,bk 155 .add 154 1,m 16 155])))))) (sq [m 218 15,c1 219 57 218,m 220 11,c2 221 25 219 220,m 222 221,gt 222 223 (.call 18 []),pa 224 222 223,m 2 224] .ret)))))))))))))))
def r7:List NRes:=[(.slot 2)]
theorem c7:IsN Tryz.prog 7 1 n7 r7:=isq [(1,1),(7,7)] Tryz.func7
end Go.Proofs
end
section
open Go Go.LL
namespace Go.Proofs
section
variable  {P:Prg}[Tz P][Loud P]{H:Hp}
set_option maxHeartbeats 1000000
theorem Told_ok (k n:Nat):LL.Zag P 54 #[vi k,vi n] H fun v H'=>H=H'∧v=vi (Zhu k n):=by
 refine IsN.m (isn c54) (args:=[vi k,vi n]) rfl ?_
 unfold n54
 refine wkT ?_
 refine wiT (fun h1=>?_) (fun h1=>?_)
 ·refine wkT ?_
  exact⟨rfl,by rw[Zhu,if_pos (by omega)];rfl⟩
 ·refine wkT ?_
  refine wiT (fun h2=>?_) (fun h2=>?_)
  ·refine wkT ?_
   exact⟨rfl,by rw[Zhu,if_neg (by omega),if_pos (by omega)];rfl⟩
  ·refine wkT ?_
   exact⟨rfl,by rw[Zhu,if_neg (by omega),if_neg (by omega)];rfl⟩
end
end Go.Proofs
end
section
open Go Go.LL
namespace Go.Proofs
theorem t38e:Tryz.prog.underlying 38=some (.slice 70):=by kernel_rfl
section
variable  {P:Prg}[Tz P][Loud P]{H:Hp}
set_option maxHeartbeats 2000000
set_option maxRecDepth 20000
theorem Wbu {H:Hp}{r:Nat}{k:Slip}:SlAt (H.ins r (.cells [vi k.bf,vi k.by_].toArray 70)) (.slice (some ⟨r,0,none⟩) 1 1) [k]:=Za4 (l:=[k])
theorem Wbp {bv:Value}{b:Bk}(hb:BkAt H bv b)(h0:0<=b.sl)(h1:b.sl<=100)(h2:b.pts.length<=100)(h2':1<=b.pts.length) :
  LL.Zag P 56 #[bv] H fun v H'=>Inc H H'∧∃ bb,Own H H' 70 v ((ZaC b).drop 1) bb:=by
 have hs:∀ g,P.still g=false:=Loud.loud
 obtain⟨pv,cv,rfl,hp,hc⟩:=hb
 obtain⟨Ap,cp,rfl,hp'⟩:=id hp
 obtain⟨Ac,cc,rfl,hc'⟩:=id hc
 obtain⟨sl,hsl⟩:∃ sl:Nat,b.sl=sl:=⟨b.sl.toNat,by omega⟩
 have hdr:(ZaC b).drop 1=outerR b.pts.length sl (b.pts.length-1):=by rw[ZaC,hsl];rfl
 rw[hdr]
 have hol:=Zis b.pts.length sl
 refine IsN.m (isn c56) (args:=[.agg #[vi b.op,vi b.sl,.slice Ap b.pts.length cp,.slice Ac b.cks.length cc]]) rfl ?_
 unfold n56
 refine wkT ?_
 refine ZaP (α:=Value×List Slip×Option Nat) (b.pts.length-1) (fun j s H'=>Inc H H'∧Own H H' 70 s.1 s.2.1 s.2.2∧s.2.1++outerR b.pts.length sl (b.pts.length-1-j)=outerR b.pts.length sl (b.pts.length-1)∧s.2.1.length<=j * 300)
  (fun j s=>[(1,vi 0),(3,s.1),(4,vi (j+1:Nat))]) (fun _ _=>[(1,[vi b.op,vi b.sl,.slice Ap b.pts.length cp,.slice Ac b.cks.length cc])]) (.slice none 0 0,[],none) ⟨.refl H,.nil _ _ _,rfl,by simp⟩ ⟨rfl,rfl,rfl,trivial⟩ ⟨rfl,trivial⟩ ?_
 rintro j ⟨v3,l3,b3⟩ H1 hj ⟨hi1,o3,e3,len3⟩
 simp only at o3 e3 len3
 refine wkT ?_
 refine wiT (fun h3=>?_) (fun h3=>?_)
 ·have hj':j<b.pts.length-1:=by omega
  refine wkT ?_
  refine om_neg rfl ⟨by omega,by omega⟩ ?_
  refine wkT ?_
  have e1:b.pts.length-1-j=(b.pts.length-1-(j+1))+1:=by omega
  rw[e1,outerR]at e3
  have e2:((b.pts.length:Int)-((b.pts.length-1-(j+1))+1:Nat))=(j+1:Nat):=by omega
  rw[e2]at e3
  refine ZaP (α:=Value×List Slip×Option Nat) (2 * sl+1) (fun k s H'=>Inc H H'∧Own H H' 70 s.1 s.2.1 s.2.2∧s.2.1++(innerR (j+1:Nat) sl (2 * sl+1-k)++outerR b.pts.length sl (b.pts.length-1-(j+1)))=outerR b.pts.length sl (b.pts.length-1)∧s.2.1.length<=j * 300+k)
   (fun k s=>[(1,vi 0),(3,s.1),(4,vi (j+1:Nat)),(5,vi (-b.sl+k))]) (fun _ _=>[(1,[vi b.op,vi b.sl,.slice Ap b.pts.length cp,.slice Ac b.cks.length cc])]) (v3,l3,b3) ⟨hi1,o3,e3,by show l3.length<=j * 300+0;omega⟩ ⟨rfl,rfl,rfl,by simp[NSt.set],trivial⟩ ⟨rfl,trivial⟩ ?_
  rintro k ⟨v4,l4,b4⟩ H2 hk ⟨hi2,o4,e4,len4⟩
  simp only at o4 e4 len4
  refine wkT ?_
  refine wiT (fun h4=>?_) (fun h4=>?_)
  ·have hk':k<2 * sl+1:=by omega
   have e5:2 * sl+1-k=(2 * sl+1-(k+1))+1:=by omega
   have e6:(sl:Int)-(2 * sl+1-(k+1):Nat)=-b.sl+k:=by omega
   rw[e5,innerR,e6]at e4
   refine wkT ?_
   refine wiT (fun h5=>?_) (fun h5=>?_)
   ·rw[if_neg h5,List.cons_append]at e4
    refine wkT ?_
    refine Zat (cs:=[vi (j+1:Nat),vi (-b.sl+k)]) (hs _) rfl fun r1 hr1=>?_
    refine wkT ?_
    have hne1:=Wbu (H:=H2) (r:=r1) (k:=⟨(j+1:Nat),-b.sl+k⟩)
    generalize hkk:(⟨(j+1:Nat),-b.sl+k⟩:Slip)=kk at *
    refine ZbW (l':=[kk]) (und t38e) (und t38e) (tif t70) rfl (by decide) (hi2.trans (Zaj hr1)) (o4.ins hr1) (by subst hkk;exact hne1) rfl (by simp;omega) (by omega) rfl rfl (hs _) fun v5 H3 b5 k1 k2 k3=>?_
    refine wkT ?_
    refine⟨(⟨k+1,by omega⟩,(v5,l4++[kk],b5)),Nat.sub_lt_sub_left (by omega) (Nat.lt_succ_self k),⟨k1,k2,by rw[List.append_assoc];exact e4,by show (l4++[kk]).length<=j * 300+(k+1);rw[List.length_append,List.length_singleton];omega⟩,⟨rfl,rfl,rfl,?_,trivial⟩,⟨rfl,trivial⟩,rfl⟩
    show some (vi (-b.sl+k+1))=some (vi (-b.sl+(k+1:Nat)))
    congr 2;omega
   ·rw[if_pos h5]at e4
    refine wkT ?_
    refine⟨(⟨k+1,by omega⟩,(v4,l4,b4)),Nat.sub_lt_sub_left (by omega) (Nat.lt_succ_self k),⟨hi2,o4,e4,by show l4.length<=j * 300+(k+1);omega⟩,⟨rfl,rfl,rfl,?_,trivial⟩,⟨rfl,trivial⟩,rfl⟩
    show some (vi (-b.sl+k+1))=some (vi (-b.sl+(k+1:Nat)))
    congr 2;omega
  ·have hk2:2 * sl+1-k=0:=by omega
   rw[hk2,innerR,List.nil_append]at e4
   refine wkT ?_
   refine⟨(⟨j+1,by omega⟩,(v4,l4,b4)),Nat.sub_lt_sub_left (by omega) (Nat.lt_succ_self j),⟨hi2,o4,e4,by show l4.length<=(j+1) * 300;omega⟩,⟨rfl,rfl,?_,trivial⟩,⟨rfl,trivial⟩,rfl⟩
   show some (vi ((j+1:Nat)+1))=some (vi (j+1+1:Nat))
   congr 2
 ·have:j=b.pts.length-1:=by omega
  subst this
  rw[Nat.sub_self,outerR,List.append_nil]at e3
  subst e3
  refine wkT ?_
  exact⟨hi1,b3,o3⟩
end
end Go.Proofs
end
section
open Go Go.LL
namespace Go.Proofs
theorem ints_1 {H:Hp}{r:Nat}{E:TypeId}{x:Int}:SlAt (H.ins r (.cells [vi x].toArray E)) (.slice (some ⟨r,0,none⟩) 1 1) [x]:=Za4 (l:=[x])
section
variable  {P:Prg}[Tz P][Loud P]{H:Hp}
set_option maxHeartbeats 2000000
set_option maxRecDepth 20000
end
end Go.Proofs
end
section
open Go Go.LL
namespace Go.Proofs
def Wan (b:Bk)(i:Nat):List Int:=(List.range ((ptAt b i).mh-(ptAt b i).ml+1).toNat).map fun (t:Nat)=>(ptAt b i).ml+t
def mkL (b:Bk):Nat->List (List Int)
 | 0=>[[]]
 | i+1=>(mkL b i).flatMap fun l=>(Wan b i).map fun n=>l++[n]
theorem mk_mem {b:Bk}(v:Zeo b):∀ i,i<=b.pts.length->∀ l∈mkL b i,l.length=i∧∀ x∈l,0<=x∧x<=99
 | 0,_,l,hl=>by
  rw[mkL,List.mem_singleton]at hl
  subst hl;simp
 | i+1,hi,l,hl=>by
  rw[mkL,List.mem_flatMap]at hl
  obtain⟨m,hm,hl⟩:=hl
  obtain⟨n,hn,rfl⟩:=List.mem_map.1 hl
  obtain⟨h1,h2⟩:=mk_mem v i (by omega) m hm
  refine⟨by simp[h1],fun x hx=>?_⟩
  rcases List.mem_append.1 hx with hx | hx
  ·exact h2 x hx
  ·rw[List.mem_singleton.1 hx]
   rw[Wan,List.mem_map]at hn
   obtain⟨t,ht,rfl⟩:=hn
   rw[List.mem_range]at ht
   rw[show ptAt b i=b.pts[i] from Zbd (by omega) _]at ht ⊢
   have:=v.pts i (by omega)
   omega
section
variable  {P:Prg}[Tz P][Loud P]{H:Hp}
set_option maxHeartbeats 4000000
set_option maxRecDepth 20000
end
end Go.Proofs
end
section
open Go Go.LL
namespace Go.Proofs
def bodyF (b:Bk)(l:List Int)(ks:List Slip):List Boat:=(ks.map fun k=>(⟨n4of l,k.bf,k.by_⟩:Boat)).filter (ZgQ b)
def WaW (hi:Int):Nat->List Int
 | 0=>[]
 | c+1=>(hi-c) :: WaW hi c
theorem WaC (f:Int->List Boat)(hi:Int):∀ c,spanR f hi c=(WaW hi c).flatMap f
 | 0=>rfl
 | c+1=>by rw[spanR,WaW,List.flatMap_cons,WaC f hi c]
theorem WaV {hi:Int}:∀ {c:Nat},(WaW hi c).length=c∧∀ t,t<c->(WaW hi c)[t]? = some (hi-(c-1-t:Nat))
 | 0=>⟨rfl,fun t h=>by omega⟩
 | c+1=>by
  obtain⟨h1,h2⟩:=@WaV hi c
  refine⟨by rw[WaW,List.length_cons,h1],fun t ht=>?_⟩
  rw[WaW]
  cases t with
  | zero=>simp
  | succ t=>rw[List.getElem?_cons_succ,h2 t (by omega)];congr 2;omega
theorem spanL_eq {b:Bk}{i:Nat}:WaW (ptAt b i).mh ((ptAt b i).mh-(ptAt b i).ml+1).toNat=Wan b i:=by
 obtain⟨h1,h2⟩:=@WaV (ptAt b i).mh ((ptAt b i).mh-(ptAt b i).ml+1).toNat
 have hl:(Wan b i).length=((ptAt b i).mh-(ptAt b i).ml+1).toNat:=by simp[Wan]
 refine List.ext_getElem? fun t=>?_
 by_cases ht:t<((ptAt b i).mh-(ptAt b i).ml+1).toNat
 ·rw[h2 t ht,Wan,List.getElem?_map,List.getElem?_range ht]
  show some ((ptAt b i).mh-((((ptAt b i).mh-(ptAt b i).ml+1).toNat-1-t:Nat):Int))=some ((ptAt b i).ml+(t:Int))
  congr 1;omega
 ·rw[List.getElem?_eq_none (by omega),List.getElem?_eq_none (by omega)]
def lvN (b:Bk):Nat->List N4
 | 0=>[⟨0,0,0,0⟩]
 | i+1=>(lvN b i).flatMap fun m=>(Wan b i).map fun n=>m.put i n
theorem Wak {α β γ:Type}(l:List α)(f:α->List β)(g:β->List γ):(l.flatMap f).flatMap g=l.flatMap fun a=>(f a).flatMap g:=by
 induction l with
 | nil=>rfl
 | cons a l ih=>simp[List.flatMap_cons,List.flatMap_append,ih]
theorem Wae {α β γ:Type}(l:List α)(f:α->β)(g:β->List γ):(l.map f).flatMap g=l.flatMap fun a=>g (f a):=by
 induction l with
 | nil=>rfl
 | cons a l ih=>simp[List.flatMap_cons,ih]
theorem WaA {α β:Type}{l:List α}{f g:α->List β}(h:∀ a∈l,f a=g a):l.flatMap f=l.flatMap g:=by
 induction l with
 | nil=>rfl
 | cons a l ih=>rw[List.flatMap_cons,List.flatMap_cons,h a (List.mem_cons_self ..),ih fun x hx=>h x (List.mem_cons_of_mem _ hx)]
theorem lv_step {b:Bk}{r i:Nat}(h:b.pts.length=i+(r+1)):(lvN b (i+1)).flatMap (boatsFrom b r)=(lvN b i).flatMap (boatsFrom b (r+1)):=by
 rw[lvN,Wak]
 congr 1
 funext m
 rw[Wae,boatsFrom,WaC]
 have e:b.pts.length-(r+1)=i:=by omega
 rw[e,spanL_eq]
theorem lv_all {b:Bk}:∀ (r i:Nat),b.pts.length=i+r->(lvN b i).flatMap (boatsFrom b r)=(lvN b b.pts.length).flatMap (boatsFrom b 0)
 | 0,i,h=>by rw[h,Nat.add_zero]
 | r+1,i,h=>by rw[<-lv_step h];exact lv_all r (i+1) (by omega)
theorem boats_lv (b:Bk):Zae b=(lvN b b.pts.length).flatMap (boatsFrom b 0):=by
 rw[<-lv_all b.pts.length 0 (by omega)]
 simp[lvN,Zae]
theorem Wac {l:List Int}{j:Nat}(hj:j<4):(n4of l).get j=l.getD j 0:=N4.of_get _ hj
theorem lv_mk {b:Bk}(v:Zeo b):∀ i,i<=b.pts.length->lvN b i=(mkL b i).map n4of
 | 0,_=>rfl
 | i+1,hi=>by
  have hi4:i<4:=by have:=v.n;omega
  rw[lvN,lv_mk v i (by omega),mkL,Wae,List.map_flatMap]
  refine WaA fun l hl=>?_
  rw[List.map_map]
  refine List.map_congr_left fun n _=>?_
  obtain⟨h1,_⟩:=mk_mem v i (by omega) l hl
  refine N4.ext' fun j hj=>?_
  rw[N4.put_get _ _ hj,Wac hj]
  show _=(n4of (l++[n])).get j
  rw[Wac hj]
  simp only[List.getD_eq_getElem?_getD]
  by_cases e:j=i
  ·subst e
   rw[if_pos rfl,List.getElem?_append_right (by omega),h1]
   simp
  ·rw[if_neg e]
   by_cases e2:j<i
   ·rw[List.getElem?_append_left (by omega)]
   ·rw[List.getElem?_eq_none (by omega),List.getElem?_eq_none (by rw[List.length_append,List.length_singleton];omega)]
theorem Wbj {b:Bk}(v:Zeo b):Zae b=(mkL b b.pts.length).flatMap fun l=>bodyF b l (ZaC b):=by
 rw[boats_lv,lv_mk v _ (Nat.le_refl _),Wae]
 rfl
section
variable  {P:Prg}[Tz P][Loud P]{H:Hp}
set_option maxHeartbeats 4000000
set_option maxRecDepth 20000
end
end Go.Proofs
end
