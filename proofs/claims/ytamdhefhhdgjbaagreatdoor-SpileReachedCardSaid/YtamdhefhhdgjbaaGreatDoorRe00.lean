/- proofs about Leango given: part Re0; made by a program out of the longer texts in wip -/
import Derived.Test.YtamdhefhhdgjbaaGreatDoorP44
set_option linter.all false
section
namespace Go.LL
section
variable  {P:Prg}{d:Option Nat}{r:List NI}{op:NOp}{Q:NSt->Hp->Prop}{next:NSt->Hp->Prop}{σ:NSt}{H:Hp}{x y z:Operand}{v:Value}
variable  {l:List (NI×Option Bool)}
variable  {Qe:Ex->NSt->Hp->Prop}{a b c:Zai}
end
section
variable  {P:Prg}{σ:NSt}{H:Hp}{Qe:Ex->NSt->Hp->Prop}{b:Zai}
theorem Waq {n j:Nat}{I:Nat->Hp->Prop}{env:Nat->List (Nat×Value)}{box:Nat->List (Nat×List Value)}{σ':NSt}{ds:List Deferred}(hj:j<n)(hI:I (j+1) H)(he:LeE (env (j+1)) σ')(hb:LeB (box (j+1)) σ')(hd:σ'.defs=ds) :
  ∃ j':{ j:Nat // j<=n },n-j'.1<n-j∧I j'.1 H∧LeE (env j'.1) σ'∧LeB (box j'.1) σ'∧σ'.defs=ds:=⟨⟨j+1,hj⟩,by show n-(j+1)<n-j;omega,hI,he,hb,hd⟩
end
end Go.LL
end
section
namespace Go.LL
section
variable  {P:Prg}{d:Option Nat}{next:NSt->Hp->Prop}{σ:NSt}{H:Hp}{x y z:Operand}{v:Value}{ty:TypeId}
theorem om_rem {k:IntKind}{m n:Int}{t t2:TypeId}(e1:σ.get x=some (.int k m))(e2:σ.get y=some (.int k n))(hn:n≠0)(h:next (σ.set d (.int k (m.tmod n))) H):(NOp.pur (.binOp .rem t x y t2) ty).m P d next σ H:=by
 refine Zcb (by simp[Op.operands,e1,e2]) ?_ h
 have:execOp (fun x=>(σ.get x).getD undef) (bare (.binOp .rem t x y t2) ty)=pure (.value (.int k (m.tmod n))):=by simp[execOp,bare,e1,e2,eqGuard,binOp,Op.intDiv,hn]
 rw[this]
 exact fun Q g H hq=>hq
end
end Go.LL
end
section
open Go Go.LL Go.Z
namespace Go.Proofs
def n43:Zai:=(sq [o 2 (.lbox 2 [2,7,13,20,29,38,44,56,62] (t 0)),o 3 (.lbox 3 [3,9,15,23,32,49,67] (t 1)),m0 4] (.seq (sq [f 7 0 2,ln 8 2 7,f 9 0 3,ln 10 3 9,b 11 .neq 8 10,m 12 11,gf 12 13 (.lfadr 1 2),gf 12 14 (.lld 2 none 13),gf 12 15 (.lfadr 1 3),gf 12 16 (.lld 3 none 15),gf 12 17 (.bin .neq (t 14) (t 16)),po 18 12 17,m 19 18,gf 19 20 (.lfadr 2 2),gf 19 21 (.lld 2 none 20),gf 19 22 (.len (t 21)),gf 19 23 (.lfadr 2 3),gf 19 24 (.lld 3 none 23),gf 19 25 (.len (t 24)),gf 19 26 (.bin .neq (t 22) (t 25)),po 27 19 26,m 28 27,gf 28 29 (.lfadr 3 2),gf 28 30 (.lld 2 none 29),gf 28 31 (.len (t 30)),gf 28 32 (.lfadr 3 3),gf 28 33 (.lld 3 none 32),gf 28 34 (.len (t 33)),gf 28 35 (.bin .neq (t 31) (t 34)),po 36 28 35] (.cond (t 36) (sq [m0 4] .ret) .skip)) (.seq (sq [mi 5 0] (.block 0 (.loop (.seq (sq [m 37 5,f 38 2 2,ln 39 2 38,le 40 39,b 41 .lss 37 40] (.cond (t 41) .skip (.exit 0))) (.seq (.block 1 (.seq (.drawn [(f 44 2 2,none),(ln 45 2 44,none),(m 46 5,none),(ia 47 5 45 46,none),(lm 48 5 47,none),(f 49 2 3,none),(ln 50 3 49,none),(m 51 5,none),(ia 52 5 50 51,none),(lm 53 5 52,none),(o 54 (.pur (.binOp .neq 59 (t 48) (t 53) 59) 4),none)]) (.cond (t 54) (sq [m0 4] .ret) .skip))) (.ops [m 42 5,bk 43 .add 42 1,m 5 43])))))) (.seq (sq [mi 6 0] (.block 2 (.loop (.seq (sq [m 55 6,f 56 3 2,ln 57 2 56,le 58 57,b 59 .lss 55 58] (.cond (t 59) .skip (.exit 2))) (.seq (.block 3 (.seq (.drawn [(f 62 3 2,none),(ln 63 2 62,none),(m 64 6,none),(ia 65 3 63 64,none),(lm 66 3 65,none),(f 67 3 3,none),(ln 68 3 67,none),(m 69 6,none),(ia 70 3 68 69,none),(lm 71 3 70,none),(o 72 (.pur (.binOp .neq 51 (t 66) (t 71) 51) 4),none)]) (.cond (t 72) (sq [m0 4] .ret) .skip))) (.ops [m 60 6,bk 61 .add 60 1,m 6 61])))))) (sq [m1 4] .ret)))))
def r43:List NRes:=[(.slot 4)]
theorem c43:IsN Tryz.prog 43 2 n43 r43:=isq [(2,2),(3,3),(7,2),(9,3),(13,2),(15,3),(20,2),(23,3),(29,2),(32,3),(38,2),(44,2),(49,3),(56,2),(62,2),(67,3)] Tryz.func43
end Go.Proofs
end
section
open Go Go.LL Go.Z
namespace Go.Proofs
def n50:Zai:=(sq [m0 4] (.seq (sq [mi 5 0] (.block 0 (.loop (.seq (sq [m 6 5,m 7 0,le 8 7,b 9 .lss 6 8] (.cond (t 9) .skip (.exit 0))) (.seq (.block 1 (sq [m 12 0,m 13 5,ia 14 1 12 13,ld 15 14,m 16 1,b 17 .eql 15 16] (.cond (t 17) (sq [m1 4] .ret) .skip))) (.ops [m 10 5,bk 11 .add 10 1,m 5 11])))))) (sq [m0 4] .ret)))
def r50:List NRes:=[(.slot 4)]
theorem c50:IsN Tryz.prog 50 2 n50 r50:=isq [] Tryz.func50
end Go.Proofs
end
section
open Go Go.LL
namespace Go.Proofs
theorem spf3 {p:Program}{t:TypeId}{n1 n2 n3:String}{t1 t2 t3 o1 o2 o3:Nat}{b:Bool}(h:spf p t=some ([(n1,t1,o1),(n2,t2,o2),(n3,t3,o3)],b)):∃ f1 f2 f3:Field,p.underlying t=some (.struct #[f1,f2,f3])∧(f1.name=n1∧f1.type=t1∧f1.offset=o1)∧(f2.name=n2∧f2.type=t2∧f2.offset=o2)∧(f3.name=n3∧f3.type=t3∧f3.offset=o3)∧p.stoodInHeld t=b:=by
 unfold spf at h
 split at h
 ·rename_i fs hu
  obtain⟨fs⟩:=fs
  simp only[Option.some.injEq,Prod.mk.injEq]at h
  obtain⟨h,h2⟩:=h
  match fs,h with
  | [f1,f2,f3],h=>
   simp only[List.map_cons,List.map_nil,List.cons.injEq,Prod.mk.injEq]at h
   exact⟨f1,f2,f3,hu,h.1,h.2.1,h.2.2.1,h2⟩
 ·simp at h
theorem s51:spf Tryz.prog 51=some ([("Point",3,0),("Gap",49,1)],false):=by kernel_rfl
theorem s59:spf Tryz.prog 59=some ([("Mark",49,0),("Board",49,2),("Width",3,4)],false):=by kernel_rfl
theorem ui4:Tryz.prog.underlying 4=some .bool:=by kernel_rfl
theorem a49:Zb7 Tryz.prog 49=some (some 2):=by kernel_rfl
section
variable  {P:Prg}[Tz P]{H:Hp}{g:Bool}{d:Nat}
theorem partA {t n:Nat}{cs:Array Value}{off:Nat}(h:Zb7 Tryz.prog t=some (some n))(Q:Value->Bool->Hp->Prop):wpL P.toPQ (part t cs off) Q g H↔Q (.agg (cs.extract off (off+n))) g H:=by
 obtain⟨i,h1,h2,h3⟩:=ZcM (agf (P:=P) h)
 simp only[part,Zaa,h3,if_true,Zap h1,h2,Zac]
theorem WaR {t:TypeId}(hs:spf Tryz.prog t=some ([("Before",3,0),("By",3,1)],false)∨spf Tryz.prog t=some ([("Low",3,0),("High",3,1)],false)){a b c e:Int}(Q:Bool->Bool->Hp->Prop):wpL P.toPQ (Op.equalIn (d+1+1) t (.agg #[vi a,vi b]) (.agg #[vi c,vi e])) Q g H↔Q (decide (a=c∧b=e)) g H:=by
 refine⟨fun h=>?_,eqP hs Q⟩
 have p1:∀ (x y:Int) (Q:Value->Bool->Hp->Prop) g H,wpL P.toPQ (part 3 #[vi x,vi y] 0) Q g H↔Q (vi x) g H:=fun x y Q g H=>ZgA rfl Q
 have p2:∀ (x y:Int) (Q:Value->Bool->Hp->Prop) g H,wpL P.toPQ (part 3 #[vi x,vi y] 1) Q g H↔Q (vi y) g H:=fun x y Q g H=>ZgA rfl Q
 rcases hs with hs | hs
 all_goals
  obtain⟨f1,f2,hu,⟨n1,t1,o1⟩,⟨n2,t2,o2⟩,hs⟩:=spf2 (p:=P.toProgram) (by rw[Tz.prog (P:=P)];exact hs)
  rw[Op.equalIn]at h
  simp only[Zaa,Zad hu,ZaU,hs,Bool.false_eq_true,if_false,Zac]at h
  simp only[n1,n2,t1,t2,o1,o2,Zaa,List.forIn_toArray,List.forIn_cons,List.forIn_nil]at h
  by_cases h1:a=c<;>by_cases h2:b=e<;>simp[p1,p2,eq3,Zaa,Zac,h1,h2]at h ⊢<;>exact h
def ckEq (a b:SCk):Bool:=decide (a.p=b.p∧a.gl=b.gl∧a.gh=b.gh)
def ptEq (a b:SPt):Bool:=decide (a.ml=b.ml∧a.mh=b.mh∧a.bl=b.bl∧a.bh=b.bh∧a.w=b.w)
theorem eq51 {a b:SCk}(Q:Bool->Bool->Hp->Prop)(hq:Q (ckEq a b) g H):wpL P.toPQ (Op.equalIn (d+1+1+1) 51 (.agg #[vi a.p,vi a.gl,vi a.gh]) (.agg #[vi b.p,vi b.gl,vi b.gh])) Q g H:=by
 have p1:∀ (x y z:Int) (Q:Value->Bool->Hp->Prop) g H,wpL P.toPQ (part 3 #[vi x,vi y,vi z] 0) Q g H↔Q (vi x) g H:=fun x y z Q g H=>ZgA rfl Q
 have p2:∀ (x y z:Int) (Q:Value->Bool->Hp->Prop) g H,wpL P.toPQ (part 49 #[vi x,vi y,vi z] 1) Q g H↔Q (.agg #[vi y,vi z]) g H:=fun x y z Q g H=>partA a49 Q
 obtain⟨f1,f2,hu,⟨n1,t1,o1⟩,⟨n2,t2,o2⟩,hs⟩:=spf2 (p:=P.toProgram) (by rw[Tz.prog (P:=P)];exact s51)
 rw[Op.equalIn]
 simp only[Zaa,Zad hu,ZaU,hs,Bool.false_eq_true,if_false,Zac]
 simp only[n1,n2,t1,t2,o1,o2,Zaa,List.forIn_toArray,List.forIn_cons,List.forIn_nil]
 unfold ckEq at hq
 by_cases h1:a.p=b.p<;>by_cases h2:a.gl=b.gl<;>by_cases h3:a.gh=b.gh<;>simp[p1,p2,eq3,WaR (.inr s49),Zaa,Zac,h1,h2,h3]at hq ⊢<;>exact hq
theorem eq59 {a b:SPt}(Q:Bool->Bool->Hp->Prop)(hq:Q (ptEq a b) g H):wpL P.toPQ (Op.equalIn (d+1+1+1) 59 (.agg #[vi a.ml,vi a.mh,vi a.bl,vi a.bh,vi a.w]) (.agg #[vi b.ml,vi b.mh,vi b.bl,vi b.bh,vi b.w])) Q g H:=by
 have p1:∀ (x y z u v:Int) (Q:Value->Bool->Hp->Prop) g H,wpL P.toPQ (part 49 #[vi x,vi y,vi z,vi u,vi v] 0) Q g H↔Q (.agg #[vi x,vi y]) g H:=fun x y z u v Q g H=>partA a49 Q
 have p2:∀ (x y z u v:Int) (Q:Value->Bool->Hp->Prop) g H,wpL P.toPQ (part 49 #[vi x,vi y,vi z,vi u,vi v] 2) Q g H↔Q (.agg #[vi z,vi u]) g H:=fun x y z u v Q g H=>partA a49 Q
 have p3:∀ (x y z u v:Int) (Q:Value->Bool->Hp->Prop) g H,wpL P.toPQ (part 3 #[vi x,vi y,vi z,vi u,vi v] 4) Q g H↔Q (vi v) g H:=fun x y z u v Q g H=>ZgA rfl Q
 obtain⟨f1,f2,f3,hu,⟨n1,t1,o1⟩,⟨n2,t2,o2⟩,⟨n3,t3,o3⟩,hs⟩:=spf3 (p:=P.toProgram) (by rw[Tz.prog (P:=P)];exact s59)
 rw[Op.equalIn]
 simp only[Zaa,Zad hu,ZaU,hs,Bool.false_eq_true,if_false,Zac]
 simp only[n1,n2,n3,t1,t2,t3,o1,o2,o3,Zaa,List.forIn_toArray,List.forIn_cons,List.forIn_nil]
 unfold ptEq at hq
 have e1:(a.ml=b.ml∧a.mh=b.mh∧a.bl=b.bl∧a.bh=b.bh∧a.w=b.w)↔((a.ml=b.ml∧a.mh=b.mh)∧(a.bl=b.bl∧a.bh=b.bh)∧a.w=b.w):=by constructor<;>(intro h;simp_all)
 simp only[e1]at hq
 by_cases h1:(a.ml=b.ml∧a.mh=b.mh)<;>by_cases h2:(a.bl=b.bl∧a.bh=b.bh)<;>by_cases h3:a.w=b.w<;>simp only[h1,h2,h3,and_self,and_true,true_and,and_false,false_and,decide_true,decide_false]at hq<;>simp[p1,p2,p3,eq3,WaR (.inr s49),Zaa,Zac,h1,h2,h3]<;>exact hq
end
end Go.Proofs
end
section
open Go Go.LL
namespace Go.Proofs
theorem g51:eqGB Tryz.prog 51=false:=by kernel_rfl
theorem g59:eqGB Tryz.prog 59=false:=by kernel_rfl
section
variable  {P:Prg}[Tz P]{H:Hp}{d:Option Nat}{next:NSt->Hp->Prop}{σ:NSt}{x y:Operand}{ty t2:TypeId}{v:Value}
theorem eq4_w' {a b:Bool}(d:Nat)(Q:Bool->Bool->Hp->Prop)(g:Bool)(H:Hp)(hq:Q (a == b) g H):wpL P.toPQ (Op.equalIn (d+1) 4 (vb a) (vb b)) Q g H:=by
 simp only[Op.equalIn,Zaa,Zad (und (P:=P) ui4),Zac]
 exact hq
theorem eq4_w {a b:Bool}(Q:Bool->Bool->Hp->Prop)(g:Bool)(H:Hp)(hq:Q (a == b) g H):wpL P.toPQ (Op.equalIn (9999+1) 4 (vb a) (vb b)) Q g H:=eq4_w' 9999 Q g H hq
theorem om_neb {a b:Bool}(e1:σ.get x=some (vb a))(e2:σ.get y=some (vb b))(h:next (σ.set d (vb (a != b))) H):(NOp.pur (.binOp .neq 4 x y t2) ty).m P d next σ H:=by
 refine Zcb (by simp[Op.operands,e1,e2]) ?_ h
 have:execOp (fun x=>(σ.get x).getD undef) (bare (.binOp .neq 4 x y t2) ty)=(do let v <-(do eqGuard .neq 4 x y (vb a) (vb b);binOp .neq 4 (vb a) (vb b));pure (.value v)):=by simp[execOp,bare,e1,e2]
 rw[this]
 refine Zgz fun Q g H hq=>?_
 simp only[eqGuard,Zaa,Zac]
 exact Zaa.2 (eq4_w _ _ _ hq)
end
end Go.Proofs
end
section
open Go Go.LL Go.Z
namespace Go.Proofs
def n6:Zai:=(sq [o 2 (.lbox 2 [2,22,30,67,73,78,83,88] (t 0)),m0 4] (.seq (sq [l 18 2 4 2,c1 19 48 18,o 20 (.not (t 19)),m 21 20,gf 21 22 (.lfadr 3 2),gf 21 23 (.lld 2 none 22),gf 21 24 (.len (t 23)),gf 21 25 (.bin .geq (t 24) (k 3)),po 26 21 25] (.cond (t 26) (sq [c0 27 18,m 4 27] .ret) .skip)) (sq [m 28 1,o 29 (.pur (.convert 5 3 (t 28)) 3),f 30 2 2,ln 31 2 30,le 32 31,o 33 (.pur (.binOp .rem 3 (t 29) (t 32) 3) 3),m 5 33] (sq [l 35 2 4 2,m 36 5,c2 37 29 35 36,m 34 37,x 38 34 0,x 39 34 1,m 6 38,m 7 39] (sq [l 41 2 4 2,c1 42 19 41,m 40 42,x 43 40 0,x 44 40 1,m 8 43,m 9 44] (.seq (sq [m 45 9,bk 46 .neq 45 0,m 47 46,mf 47 48 7,gf 47 49 (.bin .eql (t 48) (k 0)),mf 47 50 8,gf 47 51 (.bin .gtr (t 50) (k 0)),gf 47 52 (.pur (.binOp .neq 4 (t 49) (t 51) 4) 4),po 53 47 52,m 54 53,mf 54 55 7,gf 54 56 (.bin .neq (t 55) (k 0)),mf 54 57 56,mt 57 58 7,gt 57 59 (.bin .neq (t 58) (k 9)),mt 57 60 59,mf 60 61 6,gf 60 62 (.len (t 61)),gf 60 63 (.bin .gtr (t 62) (k 0)),gt 57 64 (.pick (t 60) k1 (t 63)),gf 54 65 (.pick (t 57) (t 64) k0),po 66 54 65] (.cond (t 66) (sq [m0 4] .ret) .skip)) (sq [mi 10 0] (sq [f 67 2 2,ln 68 2 67,m 69 5,ia 70 5 68 69,o 71 (.fadr 0 (t 70)),lm 72 2 71,o 11 (.lzero 11 [11,75,85] [z0,z0]),ls 11 2 11 72] (.seq (sq [f 73 0 2,ln 74 2 73,f 75 1 11,ln 76 11 75,b 77 .sub 74 76,f 78 1 2,ln 79 2 78,b 80 .sub 77 79,bk 81 .sub 80 1,m 12 81] (.block 0 (.loop (.seq (sq [m 82 12,f 83 0 2,ln 84 2 83,f 85 0 11,ln 86 11 85,b 87 .sub 84 86,f 88 1 2,ln 89 2 88,b 90 .add 87 89,bk 91 .add 90 1,b 92 .leq 82 91] (.cond (t 92) .skip (.exit 0))) (.seq (.block 1 (sq [m 95 5,m 96 12,c1 97 49 96,o 98 (.build [z0,z0,z0] [(0,(1,(t 95))),(1,(2,(t 97)))]),o 13 (.lzero 13 [13] [z0,z0,z0]),ls 13 3 13 98] (sq [l 100 2 4 2,l 101 13 3 13,c2 102 41 100 101,m 99 102,x 103 99 0,x 104 99 1,o 14 (.lzero 14 [14] [z0,z0,s0,s0]),ls 14 4 14 103,m 15 104] (.seq (sq [m 105 15,bk 106 .eql 105 0,m 107 6,m 108 12,c2 109 50 107 108,o 110 (.pur (.binOp .neq 4 (t 106) (t 109) 4) 4),m 111 110,mf 111 112 15,gf 111 113 (.bin .neq (t 112) (k 0)),mf 111 114 113,mt 114 115 15,gt 114 116 (.bin .neq (t 115) (k 9)),mt 114 117 116,gf 117 118 (.lld 14 (some 4) 14),gf 117 119 (.build [z0,z0,s0,s0] []),gf 117 120 (.call 43 [(t 118),(t 119)]),gf 117 121 (.not (t 120)),gt 114 122 (.pick (t 117) k1 (t 121)),gf 111 123 (.pick (t 114) (t 122) k0),po 124 111 123] (.cond (t 124) (sq [m0 4] .ret) .skip)) (.seq (sq [m 125 15,bk 126 .neq 125 0] (.cond (t 126) (.exit 1) .skip)) (sq [l 128 14 4 14,c1 129 19 128,m 127 129,x 130 127 0,x 131 127 1,m 16 130,m 17 131] (.seq (.seq (.drawn [(m 132 17,none),(bk 133 .neq 132 0,none),(m 134 133,none),(mf 134 135 16,none),(gf 134 136 (.bin .lss (t 135) (k 1)),none),(po 137 134 136,none),(m 138 137,none),(gf 138 139 (.lld 14 (some 4) 14),none),(gf 138 140 (.lld 2 (some 4) 2),none),(gf 138 141 (.lld 13 (some 3) 13),none),(gf 138 142 (.call 51 [(t 140),(t 141)]),(some false)),(gf 138 143 (.call 43 [(t 139),(t 142)]),none),(gf 138 144 (.not (t 143)),none),(po 145 138 144,none)]) (.cond (t 145) (sq [m0 4] .ret) .skip)) (.ops [m 146 10,m 147 16,b 148 .add 146 147,m 10 148])))))))) (.ops [m 93 12,bk 94 .add 93 1,m 12 94])))))) (sq [m 149 10,m 150 8,b 151 .eql 149 150,m 152 151,gt 152 153 (.call 18 []),pa 154 152 153,m 4 154] .ret))))))))))
def r6:List NRes:=[(.slot 4)]
theorem c6:IsN Tryz.prog 6 2 n6 r6:=isq [(2,2),(11,11),(13,13),(14,14),(22,2),(30,2),(67,2),(73,2),(75,11),(78,2),(83,2),(85,11),(88,2)] Tryz.func6
end Go.Proofs
end
section
open Go Go.LL
namespace Go.Proofs
def Wad (b:Bk)(i:Nat):List Int:=(List.range ((ptAt b i).mh-(ptAt b i).ml+1).toNat).map fun (t:Nat)=>(ptAt b i).ml+t
def mkL (b:Bk):Nat->List (List Int)
 | 0=>[[]]
 | i+1=>(mkL b i).flatMap fun l=>(Wad b i).map fun n=>l++[n]
theorem mk_mem {b:Bk}(v:Zeo b):∀ i,i<=b.pts.length->∀ l∈mkL b i,l.length=i∧∀ x∈l,0<=x∧x<=99
 | 0,_,l,hl=>by
  rw[mkL,List.mem_singleton]at hl
  subst hl;simp
 | i+1,hi,l,hl=>by
  rw[mkL,List.mem_flatMap]at hl
  obtain⟨m,hm,hl⟩:=hl
  obtain⟨n,hn,rfl⟩:=List.mem_map.1 hl
  obtain⟨h1,h2⟩:=mk_mem v i (by omega) m hm
  refine⟨by simp[h1],fun x hx=>?_⟩
  rcases List.mem_append.1 hx with hx | hx
  ·exact h2 x hx
  ·rw[List.mem_singleton.1 hx]
   rw[Wad,List.mem_map]at hn
   obtain⟨t,ht,rfl⟩:=hn
   rw[List.mem_range]at ht
   rw[show ptAt b i=b.pts[i] from Zbd (by omega) _]at ht ⊢
   have:=v.pts i (by omega)
   omega
section
variable  {P:Prg}[Tz P][Loud P]{H:Hp}
set_option maxHeartbeats 4000000
set_option maxRecDepth 20000
end
end Go.Proofs
end
section
open Go Go.LL
namespace Go.Proofs
def bodyF (b:Bk)(l:List Int)(ks:List Slip):List Boat:=(ks.map fun k=>(⟨n4of l,k.bf,k.by_⟩:Boat)).filter (ZgQ b)
def Wav (hi:Int):Nat->List Int
 | 0=>[]
 | c+1=>(hi-c) :: Wav hi c
theorem Wan (f:Int->List Boat)(hi:Int):∀ c,spanR f hi c=(Wav hi c).flatMap f
 | 0=>rfl
 | c+1=>by rw[spanR,Wav,List.flatMap_cons,Wan f hi c]
theorem Wau {hi:Int}:∀ {c:Nat},(Wav hi c).length=c∧∀ t,t<c->(Wav hi c)[t]? = some (hi-(c-1-t:Nat))
 | 0=>⟨rfl,fun t h=>by omega⟩
 | c+1=>by
  obtain⟨h1,h2⟩:=@Wau hi c
  refine⟨by rw[Wav,List.length_cons,h1],fun t ht=>?_⟩
  rw[Wav]
  cases t with
  | zero=>simp
  | succ t=>rw[List.getElem?_cons_succ,h2 t (by omega)];congr 2;omega
theorem spanL_eq {b:Bk}{i:Nat}:Wav (ptAt b i).mh ((ptAt b i).mh-(ptAt b i).ml+1).toNat=Wad b i:=by
 obtain⟨h1,h2⟩:=@Wau (ptAt b i).mh ((ptAt b i).mh-(ptAt b i).ml+1).toNat
 have hl:(Wad b i).length=((ptAt b i).mh-(ptAt b i).ml+1).toNat:=by simp[Wad]
 refine List.ext_getElem? fun t=>?_
 by_cases ht:t<((ptAt b i).mh-(ptAt b i).ml+1).toNat
 ·rw[h2 t ht,Wad,List.getElem?_map,List.getElem?_range ht]
  show some ((ptAt b i).mh-((((ptAt b i).mh-(ptAt b i).ml+1).toNat-1-t:Nat):Int))=some ((ptAt b i).ml+(t:Int))
  congr 1;omega
 ·rw[List.getElem?_eq_none (by omega),List.getElem?_eq_none (by omega)]
def lvN (b:Bk):Nat->List N4
 | 0=>[⟨0,0,0,0⟩]
 | i+1=>(lvN b i).flatMap fun m=>(Wad b i).map fun n=>m.put i n
theorem Waf {α β γ:Type}(l:List α)(f:α->List β)(g:β->List γ):(l.flatMap f).flatMap g=l.flatMap fun a=>(f a).flatMap g:=by
 induction l with
 | nil=>rfl
 | cons a l ih=>simp[List.flatMap_cons,List.flatMap_append,ih]
theorem Waa {α β γ:Type}(l:List α)(f:α->β)(g:β->List γ):(l.map f).flatMap g=l.flatMap fun a=>g (f a):=by
 induction l with
 | nil=>rfl
 | cons a l ih=>simp[List.flatMap_cons,ih]
theorem Wam {α β:Type}{l:List α}{f g:α->List β}(h:∀ a∈l,f a=g a):l.flatMap f=l.flatMap g:=by
 induction l with
 | nil=>rfl
 | cons a l ih=>rw[List.flatMap_cons,List.flatMap_cons,h a (List.mem_cons_self ..),ih fun x hx=>h x (List.mem_cons_of_mem _ hx)]
theorem lv_step {b:Bk}{r i:Nat}(h:b.pts.length=i+(r+1)):(lvN b (i+1)).flatMap (boatsFrom b r)=(lvN b i).flatMap (boatsFrom b (r+1)):=by
 rw[lvN,Waf]
 congr 1
 funext m
 rw[Waa,boatsFrom,Wan]
 have e:b.pts.length-(r+1)=i:=by omega
 rw[e,spanL_eq]
theorem lv_all {b:Bk}:∀ (r i:Nat),b.pts.length=i+r->(lvN b i).flatMap (boatsFrom b r)=(lvN b b.pts.length).flatMap (boatsFrom b 0)
 | 0,i,h=>by rw[h,Nat.add_zero]
 | r+1,i,h=>by rw[<-lv_step h];exact lv_all r (i+1) (by omega)
theorem boats_lv (b:Bk):Zae b=(lvN b b.pts.length).flatMap (boatsFrom b 0):=by
 rw[<-lv_all b.pts.length 0 (by omega)]
 simp[lvN,Zae]
theorem Wac {l:List Int}{j:Nat}(hj:j<4):(n4of l).get j=l.getD j 0:=N4.of_get _ hj
theorem lv_mk {b:Bk}(v:Zeo b):∀ i,i<=b.pts.length->lvN b i=(mkL b i).map n4of
 | 0,_=>rfl
 | i+1,hi=>by
  have hi4:i<4:=by have:=v.n;omega
  rw[lvN,lv_mk v i (by omega),mkL,Waa,List.map_flatMap]
  refine Wam fun l hl=>?_
  rw[List.map_map]
  refine List.map_congr_left fun n _=>?_
  obtain⟨h1,_⟩:=mk_mem v i (by omega) l hl
  refine N4.ext' fun j hj=>?_
  rw[N4.put_get _ _ hj,Wac hj]
  show _=(n4of (l++[n])).get j
  rw[Wac hj]
  simp only[List.getD_eq_getElem?_getD]
  by_cases e:j=i
  ·subst e
   rw[if_pos rfl,List.getElem?_append_right (by omega),h1]
   simp
  ·rw[if_neg e]
   by_cases e2:j<i
   ·rw[List.getElem?_append_left (by omega)]
   ·rw[List.getElem?_eq_none (by omega),List.getElem?_eq_none (by rw[List.length_append,List.length_singleton];omega)]
theorem WaK {b:Bk}(v:Zeo b):Zae b=(mkL b b.pts.length).flatMap fun l=>bodyF b l (ZaC b):=by
 rw[boats_lv,lv_mk v _ (Nat.le_refl _),Waa]
 rfl
section
variable  {P:Prg}[Tz P][Loud P]{H:Hp}
set_option maxHeartbeats 4000000
set_option maxRecDepth 20000
end
end Go.Proofs
end
section
open Go Go.LL
namespace Go.Proofs
def insD (x:Int):List Int->List Int
 | []=>[x]
 | y :: r=>if y<x then y :: insD x r else if y=x then y :: r else x :: y :: r
def ordF (l:List Int):List Int:=l.foldl (fun o x=>insD x o) []
theorem WaH (x:Int):∀ l,(insD x l).length<=l.length+1
 | []=>by simp[insD]
 | y :: r=>by
  rw[insD]
  have:=WaH x r
  split
  ·simp only[List.length_cons];omega
  ·split<;>simp
theorem ordF_len:∀ l:List Int,(ordF l).length<=l.length:=by
 refine Zfm (by simp[ordF]) fun l x ih=>?_
 have:=WaH x (ordF l)
 rw[ordF,List.foldl_append,List.length_append,List.length_singleton]
 show (insD x (ordF l)).length<=_
 omega
section
variable  {P:Prg}[Tz P][Loud P]{H:Hp}
set_option maxHeartbeats 4000000
set_option maxRecDepth 20000
end
end Go.Proofs
end
section
open Go Go.LL
namespace Go.Proofs
theorem Wat:∀ {l m:List Int},l.Pairwise (·<·)->m.Pairwise (·<·)->(∀ x,x∈l↔x∈m)->l=m
 | [],[],_,_,_=>rfl
 | [],y :: m,_,_,h=>by have:=(h y).2 (List.mem_cons_self ..);simp at this
 | x :: l,[],_,_,h=>by have:=(h x).1 (List.mem_cons_self ..);simp at this
 | x :: l,y :: m,hl,hm,h=>by
  obtain⟨l1,l2⟩:=List.pairwise_cons.1 hl
  obtain⟨m1,m2⟩:=List.pairwise_cons.1 hm
  have exy:x=y:=by
   have h1:=(h x).1 (List.mem_cons_self ..)
   have h2:=(h y).2 (List.mem_cons_self ..)
   rcases List.mem_cons.1 h1 with rfl | h1
   ·rfl
   ·rcases List.mem_cons.1 h2 with rfl | h2
    ·rfl
    ·have:=l1 y h2;have:=m1 x h1;omega
  subst exy
  congr 1
  refine Wat l2 m2 fun z=>⟨fun hz=>?_,fun hz=>?_⟩
  ·rcases List.mem_cons.1 ((h z).1 (List.mem_cons_of_mem _ hz)) with rfl | hz'
   ·have:=l1 z hz;omega
   ·exact hz'
  ·rcases List.mem_cons.1 ((h z).2 (List.mem_cons_of_mem _ hz)) with rfl | hz'
   ·have:=m1 z hz;omega
   ·exact hz'
theorem Wap (x:Int):∀ (l:List Int) (z:Int),z∈insD x l↔z=x∨z∈l
 | [],z=>by simp[insD]
 | y :: r,z=>by
  rw[insD]
  have ih:=Wap x r z
  split
  ·rw[List.mem_cons,ih,List.mem_cons]
   constructor
   ·rintro(h | h | h)
    ·exact .inr (.inl h)
    ·exact .inl h
    ·exact .inr (.inr h)
   ·rintro(h | h | h)
    ·exact .inr (.inl h)
    ·exact .inl h
    ·exact .inr (.inr h)
  ·split
   ·rename_i h;subst h;rw[List.mem_cons]
    constructor
    ·exact .inr
    ·rintro(h | h)
     ·exact .inl h
     ·exact h
   ·rw[List.mem_cons]
theorem WaP (x:Int):∀ {l:List Int},l.Pairwise (·<·)->(insD x l).Pairwise (·<·)
 | [],_=>by simp[insD]
 | y :: r,h=>by
  obtain⟨h1,h2⟩:=List.pairwise_cons.1 h
  rw[insD]
  split
  ·rename_i hy
   refine List.pairwise_cons.2 ⟨fun z hz=>?_,WaP x h2⟩
   rcases(Wap x r z).1 hz with rfl | hz
   ·exact hy
   ·exact h1 z hz
  ·split
   ·exact h
   ·refine List.pairwise_cons.2 ⟨fun z hz=>?_,h⟩
    rcases List.mem_cons.1 hz with rfl | hz
    ·omega
    ·have:=h1 z hz;omega
theorem WaF:∀ l:List Int,(ordF l).Pairwise (·<·)∧∀ z,z∈ordF l↔z∈l:=by
 refine Zfm ⟨.nil,fun z=>Iff.rfl⟩ fun l x ih=>?_
 have e:ordF (l++[x])=insD x (ordF l):=by rw[ordF,List.foldl_append];rfl
 rw[e]
 refine⟨WaP x ih.1,fun z=>?_⟩
 rw[Wap,ih.2 z,List.mem_append,List.mem_singleton]
 exact Or.comm
theorem WaJ {l:List Int}(h:l.Pairwise (·<=·)):∀ n,n<=l.length->(cmpP l n).Pairwise (·<·)∧(∀ z,z∈cmpP l n↔z∈l.take n)∧(∀ z∈cmpP l n,z<=el l (n-1))
 | 0,_=>⟨.nil,fun z=>by simp[cmpP],fun z hz=>by simp[cmpP]at hz⟩
 | n+1,hn=>by
  obtain⟨h1,h2,h3⟩:=WaJ h n (by omega)
  have hmono:∀ i j,i<=j->j<l.length->el l i<=el l j:=by
   intro i j hij hj
   rw[Zhf (by omega),Zhf hj]
   rcases Nat.lt_or_ge i j with h' | h'
   ·exact List.pairwise_iff_getElem.1 h i j (by omega) hj h'
   ·have:i=j:=by omega
    subst this;exact Int.le_refl _
  rw[Zi7 (by omega)]
  by_cases h0:n=0
  ·subst h0
   rw[cmp_one]
   exact⟨List.pairwise_singleton _ _,fun z=>by simp,fun z hz=>by rw[List.mem_singleton.1 hz];exact Int.le_refl _⟩
  ·by_cases he:el l n=el l (n-1)
   ·rw[cmp_eq h0 he]
    refine⟨h1,fun z=>?_,fun z hz=>?_⟩
    ·rw[h2,List.mem_append,List.mem_singleton]
     constructor
     ·exact .inl
     ·rintro(hz | rfl)
      ·exact hz
      ·rw[he]
       have e2:n=(n-1)+1:=by omega
       rw[e2,Zi7 (by omega)]
       simp
    ·have:=h3 z hz;rw[Nat.add_sub_cancel,he];exact this
   ·rw[cmp_ne he]
    refine⟨?_,fun z=>?_,fun z hz=>?_⟩
    ·rw[List.pairwise_append]
     refine⟨h1,List.pairwise_singleton _ _,fun a ha c hc=>?_⟩
     rw[List.mem_singleton.1 hc]
     have g1:=h3 a ha
     have g2:=hmono (n-1) n (by omega) (by omega)
     omega
    ·rw[List.mem_append,h2,List.mem_append]
    ·rw[Nat.add_sub_cancel]
     rcases List.mem_append.1 hz with hz | hz
     ·have g1:=h3 z hz
      have g2:=hmono (n-1) n (by omega) (by omega)
      omega
     ·rw[List.mem_singleton.1 hz];exact Int.le_refl _
theorem cmp_ord {l m:List Int}(h:l.Pairwise (·<=·))(hm:∀ z,z∈l↔z∈m):cmpF l=ordF m:=by
 obtain⟨h1,h2,_⟩:=WaJ h l.length (Nat.le_refl _)
 obtain⟨h3,h4⟩:=WaF m
 exact Wat h1 h3 fun z=>by rw[cmpF,h2,h4,List.take_length];exact hm z
theorem WaU {b:Bk}(v:Zeo b){x:Boat}(h:x∈Zae b):(⟨x.bf,x.by_⟩:Slip)∈ZaC b:=by
 rw[WaK v]at h
 obtain⟨l,_,h⟩:=List.mem_flatMap.1 h
 obtain⟨k,hk,rfl⟩:=List.mem_map.1 (List.mem_filter.1 h).1
 exact hk
theorem gap_eq {b:Bk}{p:Nat}{m:List Int}(hm:m=(Zae b).map fun x=>(Zas b x).get p):gapL b p=ordF m:=by
 rw[gapL]
 exact cmp_ord (srt_le _) fun z=>by rw[(Zfk _).mem_iff,hm]
end Go.Proofs
end
section
open Go Go.LL
namespace Go.Proofs
theorem own_len {α:Type}[Enc α]{H0 H:Hp}{E:TypeId}{v:Value}{l:List α}{b:Option Nat}(h:Own H0 H E v l b):∃ A c,v=.slice A l.length c:=by
 obtain⟨A,c,h1,_⟩:=h.sl
 exact⟨A,c,h1⟩
section
variable  {P:Prg}[Tz P][Loud P]{H:Hp}
set_option maxHeartbeats 8000000
set_option maxRecDepth 40000
end
end Go.Proofs
end
section
open Go Go.LL Go.Conc Go.ConcM
namespace Go.Proofs
open YtamdhefhhdgjbaaGreatDoor Go.ChangeShapes Go.WideShapes
section
set_option maxRecDepth 100000
variable  {H:Type}{enc:TypeId×Value->H}{W:World}{base:Nat}{sp:Nat->Bool}{held:Bool}{fuel:Nat}{cs:List Value}{y:DataW H×List MemPlace}{r:Reach}{b0:Nat}{v:Value}{d:DataW H}{ps:List MemPlace}
theorem u8_open (hval:Value.okWide Tryz.prog W r b0 5 v)(hd:DataW.Trod enc Tryz.prog W base sp held 5 v d ps):∃ n,v=.int .u8 n∧0<=n∧n<256:=by
 obtain⟨n,rfl,_,_,hw⟩:=open_int Tryz.underlying5 hval hd
 simp only[Lit.wf,Bool.and_eq_true,decide_eq_true_eq]at hw
 have h1:IntKind.u8.min=0:=rfl
 have h2:IntKind.u8.max=255:=rfl
 exact⟨n,rfl,by omega,by omega⟩
end
end Go.Proofs
end
section
open Go Go.LL Go.Conc Go.ConcM
namespace Go.Proofs.YtamdhefhhdgjbaaGreatDoor
theorem Waj:Tryz.pinned.checked.prog.funcNamed Rows.spileReachedRow.func=some 6:=by kernel_rfl
theorem Wai:joinedFacts Tryz.pinned.checked.prog 6 Tryz.f6 Rows.spileReachedSpec Rows.spileReachedRow=true:=by kernel_rfl
theorem Wah:Tryz.f6.isInstance Tryz.pinned.checked.prog Rows.spileReachedRow.origin Rows.spileReachedRow.targs:=of_decide_eq_true (by kernel_rfl)
theorem Wag:Tryz.f6.isWrapper Tryz.pinned.checked.prog Rows.spileReachedRow.wrapper Rows.spileReachedRow.mainSum:=by unfold Func.isWrapper;first | (rw[if_pos (by decide +kernel)];kernel_rfl) | (rw[if_neg (by decide +kernel)];exact⟨rfl,rfl⟩)
end Go.Proofs.YtamdhefhhdgjbaaGreatDoor
end
section
open Go Go.LL
namespace Go.Proofs
theorem Waw {b:Bk}{i:Nat}{n:Int}:n∈Wad b i↔(ptAt b i).ml<=n∧n<=(ptAt b i).mh:=by
 rw[Wad,List.mem_map]
 constructor
 ·rintro⟨t,ht,rfl⟩
  rw[List.mem_range]at ht
  omega
 ·rintro⟨h1,h2⟩
  exact⟨(n-(ptAt b i).ml).toNat,by rw[List.mem_range];omega,by omega⟩
theorem getD_app {l:List Int}{n:Int}{j:Nat}:(l++[n]).getD j 0=if j<l.length then l.getD j 0 else if j=l.length then n else 0:=by
 simp only[List.getD_eq_getElem?_getD]
 by_cases h:j<l.length
 ·rw[if_pos h,List.getElem?_append_left h]
 ·rw[if_neg h,List.getElem?_append_right (by omega)]
  by_cases h2:j=l.length
  ·subst h2;simp
  ·rw[if_neg h2,List.getElem?_eq_none (by simp;omega)];rfl
theorem Waz {l:List Int}{i j:Nat}(h:j<i):(l.take i).getD j 0=l.getD j 0:=by
 simp only[List.getD_eq_getElem?_getD,List.getElem?_take_of_lt h]
theorem WaG {b:Bk}:∀ {i:Nat} {l:List Int},l∈mkL b i↔l.length=i∧∀ j,j<i->(ptAt b j).ml<=l.getD j 0∧l.getD j 0<=(ptAt b j).mh
 | 0,l=>by
  rw[mkL,List.mem_singleton]
  constructor
  ·rintro rfl;exact⟨rfl,fun j h=>by omega⟩
  ·rintro⟨h,_⟩;exact List.length_eq_zero_iff.1 h
 | i+1,l=>by
  rw[mkL,List.mem_flatMap]
  constructor
  ·rintro⟨m,hm,hl⟩
   obtain⟨n,hn,rfl⟩:=List.mem_map.1 hl
   obtain⟨h1,h2⟩:=WaG.1 hm
   refine⟨by simp[h1],fun j hj=>?_⟩
   rw[getD_app]
   by_cases e:j<i
   ·rw[if_pos (by omega)];exact h2 j e
   ·rw[if_neg (by omega),if_pos (by omega)]
    obtain rfl:j=i:=by omega
    exact Waw.1 hn
  ·rintro⟨h1,h2⟩
   refine⟨l.take i,WaG.2 ⟨by rw[List.length_take];omega,fun j hj=>?_⟩,List.mem_map.2 ⟨l.getD i 0,Waw.2 (h2 i (by omega)),?_⟩⟩
   ·rw[Waz hj];exact h2 j (by omega)
   ·have:=Zi7 (l:=l) (n:=i) (by omega)
    rw[<-h1,List.take_length]at this
    exact this.symm
theorem Way {bf:Int}{sl:Nat}{k:Slip}:∀ {r:Nat},k∈innerR bf sl r↔k.bf=bf∧(sl:Int)-r<k.by_∧k.by_<=sl∧k.by_≠0
 | 0=>by rw[innerR];simp;omega
 | r+1=>by
  have ih:=@Way bf sl k r
  rw[innerR]
  split
  ·rw[ih];constructor
   ·rintro⟨h1,h2,h3,h4⟩;exact⟨h1,by omega,h3,h4⟩
   ·rintro⟨h1,h2,h3,h4⟩;exact⟨h1,by omega,h3,h4⟩
  ·rw[List.mem_cons,ih]
   obtain⟨kf,ky⟩:=k
   simp only[Slip.mk.injEq]
   omega
theorem Wax {n sl:Nat}{k:Slip}:∀ {r:Nat},r+1<=n->(k∈outerR n sl r↔((n:Int)-r<=k.bf∧k.bf<n)∧-(sl:Int)<=k.by_∧k.by_<=sl∧k.by_≠0)
 | 0,_=>by rw[outerR];simp;omega
 | r+1,h=>by
  rw[outerR,List.mem_append,Way,Wax (by omega)]
  omega
theorem WaM {b:Bk}(v:Zeo b){k:Slip}:k∈ZaC b↔k=⟨0,0⟩∨((1<=k.bf∧k.bf<b.pts.length)∧-b.sl<=k.by_∧k.by_<=b.sl∧k.by_≠0):=by
 have:=v.sl
 have:=v.n
 rw[ZaC,List.mem_cons,Wax (by omega)]
 have e:((b.sl.toNat:Nat):Int)=b.sl:=by omega
 have e2:((b.pts.length-1:Nat):Int)=b.pts.length-1:=by omega
 rw[e,e2]
 refine or_congr Iff.rfl ?_
 omega
def War (b:Bk):List Boat:=(mkL b b.pts.length).flatMap fun l=>(ZaC b).map fun k=>(⟨n4of l,k.bf,k.by_⟩:Boat)
theorem Wal {α β:Type}(l:List α)(f:α->List β)(p:β->Bool):(l.flatMap f).filter p=l.flatMap fun a=>(f a).filter p:=by
 induction l with
 | nil=>rfl
 | cons a l ih=>simp[List.flatMap_cons,ih]
theorem Wae {b:Bk}(v:Zeo b):Zae b=(War b).filter (ZgQ b):=by
 rw[WaK v,War,Wal]
 rfl
theorem cand_iff {b:Bk}(v:Zeo b){x:Boat}:x∈War b↔(∀ j,j<b.pts.length->(ptAt b j).ml<=x.m.get j∧x.m.get j<=(ptAt b j).mh)∧(∀ j,b.pts.length<=j->j<4->x.m.get j=0)∧(⟨x.bf,x.by_⟩:Slip)∈ZaC b:=by
 have hn:=v.n
 rw[War,List.mem_flatMap]
 constructor
 ·rintro⟨l,hl,hx⟩
  obtain⟨k,hk,rfl⟩:=List.mem_map.1 hx
  obtain⟨h1,h2⟩:=WaG.1 hl
  refine⟨fun j hj=>?_,fun j hj h4=>?_,hk⟩
  ·show _<=(n4of l).get j∧(n4of l).get j<=_
   rw[Wac (by omega)];exact h2 j hj
  ·show (n4of l).get j=0
   rw[Wac h4,List.getD_eq_getElem?_getD,List.getElem?_eq_none (by omega)];rfl
 ·rintro⟨h1,h2,h3⟩
  have hL:∀ j,j<b.pts.length->(x.m.list.take b.pts.length).getD j 0=x.m.get j:=by
   intro j hj
   rw[Waz hj]
   match j,(by omega:j<4) with
   | 0,_=>rfl
   | 1,_=>rfl
   | 2,_=>rfl
   | 3,_=>rfl
  refine⟨x.m.list.take b.pts.length,WaG.2 ⟨by rw[List.length_take];show min _ 4=_;omega,fun j hj=>?_⟩,List.mem_map.2 ⟨⟨x.bf,x.by_⟩,h3,?_⟩⟩
  ·rw[hL j hj];exact h1 j hj
  ·have:n4of (x.m.list.take b.pts.length)=x.m:=by
    refine N4.ext' fun j h4=>?_
    rw[Wac h4]
    by_cases hj:j<b.pts.length
    ·exact hL j hj
    ·rw[h2 j (by omega) h4,List.getD_eq_getElem?_getD,List.getElem?_eq_none (by rw[List.length_take];omega)];rfl
   rw[this]
theorem WaT {b:Bk}(v:Zeo b){x:Boat}:x∈Zae b↔x∈War b∧ZgQ b x=true:=by
 rw[Wae v,List.mem_filter]
end Go.Proofs
end
section
open Go Go.LL
namespace Go.Proofs
section
variable  {P:Prg}[Tz P][Loud P]{H:Hp}
set_option maxHeartbeats 4000000
set_option maxRecDepth 20000
end
end Go.Proofs
end
section
open Go Go.LL
namespace Go.Proofs
end Go.Proofs
end
section
open Go Go.LL
namespace Go.Proofs
theorem ckS_of {n:Nat}:∀ {l:List SCk},(∀ c∈l,(0<=c.p∧c.p<n)∧(-199<=c.gl∧c.gl<=c.gh∧c.gh<=199))->ckS n l=0
 | [],_=>rfl
 | c :: l,h=>by
  have h1:=h c (List.mem_cons_self ..)
  rw[ckS,if_neg (by omega),if_neg (by omega)]
  exact ckS_of fun d hd=>h d (List.mem_cons_of_mem _ hd)
theorem Wao {b:Bk}(v:Zeo b):snag b=0:=by
 have h1:Zbj b=0:=by rw[Zbj,if_pos ⟨v.op,v.sl⟩]
 have h2:Zbk b=0:=by
  rw[Zbk,if_neg (by have:=v.n;omega),if_pos]
  rw[List.all_eq_true]
  intro p hp
  obtain⟨i,hi,rfl⟩:=List.mem_iff_getElem.1 hp
  obtain⟨a1,a2,a3,a4⟩:=v.pts i hi
  simp only[okP,Bool.and_eq_true,decide_eq_true_eq]
  exact⟨⟨⟨a1,a2⟩,a3⟩,a4⟩
 have h3:ckS b.pts.length b.cks=0:=ckS_of v.cks
 rw[snag,if_neg (by simp[h1]),if_neg (by simp[h2]),ZbJ,if_neg (by have:=v.ckn;omega),h3]
theorem WaE {b:Bk}:Zc9 b=true↔0<(Zae b).length:=by
 rw[Zc9]
 cases Zae b<;>simp
theorem open_eq {b:Bk}(v:Zeo b):Zah b true=if 0<(Zae b).length then 0 else 9:=by
 rw[Zah,if_neg (by simp[Wao v]),if_neg (by simp)]
 by_cases h:0<(Zae b).length
 ·rw[if_neg (by omega),if_pos h]
 ·rw[if_pos (by omega),if_neg h]
theorem ag_eq {b:Bk}(v:Zeo b):ZdL b=if 0<(Zae b).length then 0 else 9:=by
 rw[ZdL,if_neg (by simp[Wao v])]
 by_cases h:0<(Zae b).length
 ·rw[if_neg (by rw[WaE.2 h];simp),if_pos h]
 ·have:Zc9 b=false:=by rw[Bool.eq_false_iff];exact fun e=>h (WaE.1 e)
  rw[if_pos this,if_neg h]
theorem there_eq {b:Bk}{i:Nat}(h:i<b.pts.length):decide (0<=(i:Int)∧(i:Int)<b.pts.length)=true:=decide_eq_true ⟨by omega,by omega⟩
theorem mk_pts {b b':Bk}(h:b.pts=b'.pts):∀ i,mkL b i=mkL b' i
 | 0=>rfl
 | i+1=>by
  have:Wad b i=Wad b' i:=by rw[Wad,Wad,ptAt,ptAt,h]
  rw[mkL,mkL,mk_pts h i,this]
theorem cand_pts {b b':Bk}(h:b.pts=b'.pts)(h2:b.sl=b'.sl):War b=War b':=by
 have:ZaC b=ZaC b':=by rw[ZaC,ZaC,h,h2]
 rw[War,War,mk_pts h,h,this]
theorem gaps_op {b b':Bk}(h:b.op=b'.op)(h2:b.pts.length=b'.pts.length)(x:Boat):Zas b x=Zas b' x:=by
 simp only[Zas,Zk9,h,h2]
theorem right_ck (b:Bk)(c:SCk)(x:Boat):ZgQ (ckBk b c) x=(ZgQ b x && ckOk (Zas b x) c):=by
 have e:Zas (ckBk b c) x=Zas b x:=gaps_op rfl rfl x
 rw[ZgQ,e]
 show (b.cks++[c]).all _=_
 rw[List.all_append,ZgQ]
 simp
theorem boats_ck {b:Bk}{c:SCk}(v:Zeo b)(v':Zeo (ckBk b c)):Zae (ckBk b c)=(Zae b).filter fun x=>ckOk (Zas b x) c:=by
 rw[Wae v',Wae v,List.filter_filter,cand_pts (b:=ckBk b c) (b':=b) rfl rfl]
 refine List.filter_congr fun x _=>?_
 rw[right_ck,Bool.and_comm]
theorem valid_ck {b:Bk}{c:SCk}(v:Zeo b)(h:b.cks.length<3)(h1:0<=c.p∧c.p<b.pts.length)(h2:-199<=c.gl∧c.gl<=c.gh∧c.gh<=199):Zeo (ckBk b c) where
 op:=v.op
 sl:=v.sl
 n:=v.n
 pts:=v.pts
 ckn:=by show (b.cks++[c]).length<=3;rw[List.length_append,List.length_singleton];omega
 cks:=fun d hd=>by
  rcases List.mem_append.1 (show d∈b.cks++[c] from hd) with hd | hd
  ·exact v.cks d hd
  ·rw[List.mem_singleton.1 hd];exact⟨h1,h2⟩
theorem ckOk_one {g:N4}{i:Nat}{k:Int}:ckOk g ⟨i,k,k⟩=decide (g.get i=k):=by
 rw[ckOk]
 refine decide_eq_decide.2 ?_
 show k<=g.get (i:Int).toNat∧g.get (i:Int).toNat<=k↔_
 rw[Int.toNat_natCast]
 omega
theorem cnt_step {α:Type}(L:List α)(g:α->Int)(k:Int):(L.filter fun x=>decide (g x<k+1)).length=(L.filter fun x=>decide (g x<k)).length+(L.filter fun x=>decide (g x=k)).length:=by
 induction L with
 | nil=>rfl
 | cons a L ih=>
  simp only[List.filter_cons]
  by_cases h1:g a<k
  ·rw[if_pos (by simp;omega),if_pos (by simp[h1]),if_neg (by simp;omega)]
   simp only[List.length_cons];omega
  ·by_cases h2:g a=k
   ·rw[if_pos (by simp;omega),if_neg (by simp;omega),if_pos (by simp[h2])]
    simp only[List.length_cons];omega
   ·rw[if_neg (by simp;omega),if_neg (by simp;omega),if_neg (by simp[h2])]
    exact ih
theorem WaD {α:Type}{L:List α}{p:α->Bool}(h:∀ x∈L,p x=false):L.filter p=[]:=List.filter_eq_nil_iff.2 fun x hx=>by simp[h x hx]
theorem WaB {α:Type}{L:List α}{p:α->Bool}(h:∀ x∈L,p x=true):L.filter p=L:=List.filter_eq_self.2 h
theorem WaI {b:Bk}{p:Nat}{z:Int}:z∈gapL b p↔∃ x∈Zae b,(Zas b x).get p=z:=by
 rw[gap_eq rfl,(WaF _).2,List.mem_map]
end Go.Proofs
end
section
open Go Go.LL
namespace Go.Proofs
theorem boat_sl {b:Bk}(v:Zeo b){x:Boat}(h:x∈Zae b):(x.bf=0∧x.by_=0)∨((1<=x.bf∧x.bf<b.pts.length)∧-b.sl<=x.by_∧x.by_<=b.sl∧x.by_≠0):=by
 have:=(WaM v).1 (WaU v h)
 simpa using this
end Go.Proofs
end
section
open Go Go.LL
namespace Go.Proofs
structure Wider (b o:Bk):Prop where
 op:o.op=b.op
 sl:o.sl=b.sl
 cks:o.cks=b.cks
 n:o.pts.length=b.pts.length
 ml:∀ i,i<b.pts.length->(ptAt o i).ml=(ptAt b i).ml∧(ptAt o i).mh=(ptAt b i).mh
 w:∀ i,i<b.pts.length->(ptAt o i).w=(ptAt b i).w
 b:∀ i,i<b.pts.length->(ptAt o i).bl<=(ptAt b i).bl∧(ptAt b i).bh<=(ptAt o i).bh
end Go.Proofs
end
section
open Go Go.LL
namespace Go.Proofs
structure Learn (b o:Bk):Prop where
 op:o.op=b.op
 n:o.pts.length=b.pts.length
 bd:∀ i,i<b.pts.length->(ptAt o i).bl=(ptAt b i).bl∧(ptAt o i).bh=(ptAt b i).bh∧(ptAt o i).w=(ptAt b i).w
 sub:∀ x∈Zae o,x∈Zae b
theorem Learn.pos {b o:Bk}(h:Learn b o)(h0:0<(Zae o).length):0<(Zae b).length:=by
 obtain⟨x,hx⟩:=List.exists_mem_of_length_pos h0
 exact List.length_pos_of_mem (h.sub x hx)
end Go.Proofs
end
section
open Go Go.LL
namespace Go.Proofs
end Go.Proofs
end
section
open Go Go.LL
namespace Go.Proofs
end Go.Proofs
end
