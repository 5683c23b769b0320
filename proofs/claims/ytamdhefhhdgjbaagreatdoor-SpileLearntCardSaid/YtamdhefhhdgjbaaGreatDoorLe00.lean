/- proofs about Leango given: part Le0; made by a program out of the longer texts in wip -/
import Derived.Test.YtamdhefhhdgjbaaGreatDoorP44
set_option linter.all false
section
namespace Go.LL
section
variable  {P:Prg}{d:Option Nat}{r:List NI}{op:NOp}{Q:NSt->Hp->Prop}{next:NSt->Hp->Prop}{σ:NSt}{H:Hp}{x y z:Operand}{v:Value}
variable  {l:List (NI×Option Bool)}
theorem fm_k {f:Option Bool}{t:Nat}{b:Bool}(hst:P.still H.gh=false)(e:σ.env t=some undef)(h:Zbv P l Q (σ.unset d) H):Zbv P ((⟨some (t,b),d,op⟩,f) :: l) Q σ H:=by
 cases b<;>(simp only[Zbv,e,undef];exact⟨hst,h⟩)
variable  {Qe:Ex->NSt->Hp->Prop}{a b c:Zai}
end
section
variable  {P:Prg}{σ:NSt}{H:Hp}{Qe:Ex->NSt->Hp->Prop}{b:Zai}
theorem Wbq {n j:Nat}{I:Nat->Hp->Prop}{env:Nat->List (Nat×Value)}{box:Nat->List (Nat×List Value)}{σ':NSt}{ds:List Deferred}(hj:j<n)(hI:I (j+1) H)(he:LeE (env (j+1)) σ')(hb:LeB (box (j+1)) σ')(hd:σ'.defs=ds) :
  ∃ j':{ j:Nat // j<=n },n-j'.1<n-j∧I j'.1 H∧LeE (env j'.1) σ'∧LeB (box j'.1) σ'∧σ'.defs=ds:=⟨⟨j+1,hj⟩,by show n-(j+1)<n-j;omega,hI,he,hb,hd⟩
end
end Go.LL
end
section
namespace Go.LL
section
variable  {P:Prg}{d:Option Nat}{next:NSt->Hp->Prop}{σ:NSt}{H:Hp}{x y z:Operand}{v:Value}{ty:TypeId}
theorem WbI {k:IntKind}{m n:Int}{t t2:TypeId}(e1:σ.get x=some (.int k m))(e2:σ.get y=some (.int k n))(hn:n≠0)(h:next (σ.set d (.int k (m.tmod n))) H):(NOp.pur (.binOp .rem t x y t2) ty).m P d next σ H:=by
 refine Zcb (by simp[Op.operands,e1,e2]) ?_ h
 have:execOp (fun x=>(σ.get x).getD undef) (bare (.binOp .rem t x y t2) ty)=pure (.value (.int k (m.tmod n))):=by simp[execOp,bare,e1,e2,eqGuard,binOp,Op.intDiv,hn]
 rw[this]
 exact fun Q g H hq=>hq
end
end Go.LL
end
section
open Go Go.LL Go.Z
namespace Go.Proofs
def n52:Zai:=(sq [o 2 (.lbox 2 [2] (t 0)),o 4 (.lzero 4 [4] [z0,z0,s0,s0])] (sq [l 6 2 4 2,o 5 (.lzero 5 [5,8] [z0,z0,s0,s0]),ls 5 4 5 6] (sq [m 7 1,f 8 1 5,ls 5 1 8 7] (sq [l 9 5 4 5,ls 4 4 4 9] .ret))))
def r52:List NRes:=[(.var 4 4 (some 4))]
theorem c52:IsN Tryz.prog 52 2 n52 r52:=isq [(2,2),(4,4),(5,5),(8,5)] Tryz.func52
def n67:Zai:=(sq [o 2 (.lbox 2 [2,5,10] (t 0)),o 3 (.lbox 3 [3,7,12] (t 1)),o 4 (.lzero 4 [4] [z0,z0])] (sq [f 5 0 2,ln 6 2 5,f 7 0 3,ln 8 3 7,o 9 (.pur (.call (.mk (.builtin .max) #[(t 6),(t 8)] #[3,3])) 3),f 10 1 2,ln 11 2 10,f 12 1 3,ln 13 3 12,o 14 (.pur (.call (.mk (.builtin .min) #[(t 11),(t 13)] #[3,3])) 3),o 15 (.build [z0,z0] [(0,(1,(t 9))),(1,(1,(t 14)))]),ls 4 2 4 15] .ret))
def r67:List NRes:=[(.var 4 4 (some 2))]
theorem c67:IsN Tryz.prog 67 2 n67 r67:=isq [(2,2),(3,3),(4,4),(5,2),(7,3),(10,2),(12,3)] Tryz.func67
end Go.Proofs
end
section
open Go Go.LL Go.Z
namespace Go.Proofs
def n43:Zai:=(sq [o 2 (.lbox 2 [2,7,13,20,29,38,44,56,62] (t 0)),o 3 (.lbox 3 [3,9,15,23,32,49,67] (t 1)),m0 4] (.seq (sq [f 7 0 2,ln 8 2 7,f 9 0 3,ln 10 3 9,b 11 .neq 8 10,m 12 11,gf 12 13 (.lfadr 1 2),gf 12 14 (.lld 2 none 13),gf 12 15 (.lfadr 1 3),gf 12 16 (.lld 3 none 15),gf 12 17 (.bin .neq (t 14) (t 16)),po 18 12 17,m 19 18,gf 19 20 (.lfadr 2 2),gf 19 21 (.lld 2 none 20),gf 19 22 (.len (t 21)),gf 19 23 (.lfadr 2 3),gf 19 24 (.lld 3 none 23),gf 19 25 (.len (t 24)),gf 19 26 (.bin .neq (t 22) (t 25)),po 27 19 26,m 28 27,gf 28 29 (.lfadr 3 2),gf 28 30 (.lld 2 none 29),gf 28 31 (.len (t 30)),gf 28 32 (.lfadr 3 3),gf 28 33 (.lld 3 none 32),gf 28 34 (.len (t 33)),gf 28 35 (.bin .neq (t 31) (t 34)),po 36 28 35] (.cond (t 36) (sq [m0 4] .ret) .skip)) (.seq (sq [mi 5 0] (.block 0 (.loop (.seq (sq [m 37 5,f 38 2 2,ln 39 2 38,le 40 39,b 41 .lss 37 40] (.cond (t 41) .skip (.exit 0))) (.seq (.block 1 (.seq (.drawn [(f 44 2 2,none),(ln 45 2 44,none),(m 46 5,none),(ia 47 5 45 46,none),(lm 48 5 47,none),(f 49 2 3,none),(ln 50 3 49,none),(m 51 5,none),(ia 52 5 50 51,none),(lm 53 5 52,none),(o 54 (.pur (.binOp .neq 59 (t 48) (t 53) 59) 4),none)]) (.cond (t 54) (sq [m0 4] .ret) .skip))) (.ops [m 42 5,bk 43 .add 42 1,m 5 43])))))) (.seq (sq [mi 6 0] (.block 2 (.loop (.seq (sq [m 55 6,f 56 3 2,ln 57 2 56,le 58 57,b 59 .lss 55 58] (.cond (t 59) .skip (.exit 2))) (.seq (.block 3 (.seq (.drawn [(f 62 3 2,none),(ln 63 2 62,none),(m 64 6,none),(ia 65 3 63 64,none),(lm 66 3 65,none),(f 67 3 3,none),(ln 68 3 67,none),(m 69 6,none),(ia 70 3 68 69,none),(lm 71 3 70,none),(o 72 (.pur (.binOp .neq 51 (t 66) (t 71) 51) 4),none)]) (.cond (t 72) (sq [m0 4] .ret) .skip))) (.ops [m 60 6,bk 61 .add 60 1,m 6 61])))))) (sq [m1 4] .ret)))))
def r43:List NRes:=[(.slot 4)]
theorem c43:IsN Tryz.prog 43 2 n43 r43:=isq [(2,2),(3,3),(7,2),(9,3),(13,2),(15,3),(20,2),(23,3),(29,2),(32,3),(38,2),(44,2),(49,3),(56,2),(62,2),(67,3)] Tryz.func43
end Go.Proofs
end
section
open Go Go.LL Go.Z
namespace Go.Proofs
def n134:Zai:=(sq [m0 4] (.seq (sq [mi 5 0] (.block 0 (.loop (.seq (sq [m 6 5,m 7 0,le 8 7,b 9 .lss 6 8] (.cond (t 9) .skip (.exit 0))) (.seq (.block 1 (sq [m 12 1,m 13 0,m 14 5,ia 15 1 13 14,ld 16 15,c2 17 50 12 16,o 18 (.not (t 17))] (.cond (t 18) (sq [m0 4] .ret) .skip))) (.ops [m 10 5,bk 11 .add 10 1,m 5 11])))))) (sq [m1 4] .ret)))
def r134:List NRes:=[(.slot 4)]
theorem c134:IsN Tryz.prog 134 2 n134 r134:=isq [] Tryz.func134
end Go.Proofs
end
section
open Go Go.LL Go.Z
namespace Go.Proofs
def n50:Zai:=(sq [m0 4] (.seq (sq [mi 5 0] (.block 0 (.loop (.seq (sq [m 6 5,m 7 0,le 8 7,b 9 .lss 6 8] (.cond (t 9) .skip (.exit 0))) (.seq (.block 1 (sq [m 12 0,m 13 5,ia 14 1 12 13,ld 15 14,m 16 1,b 17 .eql 15 16] (.cond (t 17) (sq [m1 4] .ret) .skip))) (.ops [m 10 5,bk 11 .add 10 1,m 5 11])))))) (sq [m0 4] .ret)))
def r50:List NRes:=[(.slot 4)]
theorem c50:IsN Tryz.prog 50 2 n50 r50:=isq [] Tryz.func50
def n65:Zai:=(sq [o 3 (.lbox 3 [3,36] (t 0)),o 4 (.lbox 4 [4] (t 1)),m0 6] (sq [m 34 2,o 35 (.pur (.convert 5 3 (t 34)) 3),f 36 2 3,ln 37 3 36,le 38 37,o 39 (.pur (.binOp .rem 3 (t 35) (t 38) 3) 3),m 7 39] (sq [l 41 3 4 3,c1 42 19 41,m 40 42,x 43 40 0,x 44 40 1,m 8 43,m 9 44] (sq [l 46 4 4 4,c1 47 19 46,m 45 47,x 48 45 0,x 49 45 1,m 10 48,m 11 49] (sq [l 51 3 4 3,m 52 7,c2 53 29 51 52,m 50 53,x 54 50 0,x 55 50 1,m 12 54,m 13 55] (sq [l 57 4 4 4,m 58 7,c2 59 29 57 58,m 56 59,x 60 56 0,x 61 56 1,m 14 60,m 15 61] (sq [l 63 3 4 3,c1 64 21 63,m 62 64,x 65 62 0,x 66 62 1,m 16 65,m 17 66] (sq [l 68 4 4 4,c1 69 21 68,m 67 69,x 70 67 0,x 71 67 1,m 18 70,m 19 71] (sq [l 73 3 4 3,c1 74 23 73,m 72 74,x 75 72 0,x 76 72 1,m 20 75,m 21 76] (sq [l 78 4 4 4,c1 79 23 78,m 77 79,x 80 77 0,x 81 77 1,m 22 80,m 23 81] (sq [l 83 3 4 3,c1 84 31 83,m 82 84,x 85 82 0,x 86 82 1,m 24 85,m 25 86] (sq [l 88 4 4 4,c1 89 31 88,m 87 89,x 90 87 0,x 91 87 1,m 26 90,m 27 91] (sq [l 93 3 4 3,c1 94 33 93,m 92 94,x 95 92 0,x 96 92 1,x 97 92 2,m 28 95,m 29 96,m 30 97] (sq [l 99 4 4 4,c1 100 33 99,m 98 100,x 101 98 0,x 102 98 1,x 103 98 2,m 31 101,m 32 102,m 33 103] (.seq (sq [m 104 9,bk 105 .neq 104 0,m 106 105,mf 106 107 11,gf 106 108 (.bin .neq (t 107) (k 0)),po 109 106 108,m 110 109,mf 110 111 13,gf 110 112 (.bin .neq (t 111) (k 0)),po 113 110 112,m 114 113,mf 114 115 15,gf 114 116 (.bin .neq (t 115) (k 0)),po 117 114 116,m 118 117,mf 118 119 17,gf 118 120 (.bin .neq (t 119) (k 0)),po 121 118 120,m 122 121,mf 122 123 19,gf 122 124 (.bin .neq (t 123) (k 0)),po 125 122 124,m 126 125,mf 126 127 21,gf 126 128 (.bin .neq (t 127) (k 0)),po 129 126 128,m 130 129,mf 130 131 23,gf 130 132 (.bin .neq (t 131) (k 0)),po 133 130 132,m 134 133,mf 134 135 25,gf 134 136 (.bin .neq (t 135) (k 0)),po 137 134 136,m 138 137,mf 138 139 27,gf 138 140 (.bin .neq (t 139) (k 0)),po 141 138 140,m 142 141,mf 142 143 30,gf 142 144 (.bin .neq (t 143) (k 0)),po 145 142 144,m 146 145,mf 146 147 33,gf 146 148 (.bin .neq (t 147) (k 0)),po 149 146 148] (.cond (t 149) (sq [m0 6] .ret) .skip)) (sq [m 150 10,m 151 8,o 152 (.call 53 [(t 150),(k 1),(t 151)]),m 153 152,mt 153 154 14,mt 153 155 12,gt 153 156 (.call 134 [(t 154),(t 155)]),pa 157 153 156,m 158 157,mt 158 159 22,mt 158 160 20,gt 158 161 (.call 134 [(t 159),(t 160)]),pa 162 158 161,m 163 162,mt 163 164 16,gt 163 165 (.bin .eql (t 164) (k 0)),mt 163 166 165,mf 166 167 16,mf 166 168 18,gf 166 169 (.bin .eql (t 167) (t 168)),gt 163 170 (.pick (t 166) k1 (t 169)),pa 171 163 170,m 172 171,mt 172 173 24,gt 172 174 (.bin .eql (t 173) (k 0)),mt 172 175 174,mf 175 176 24,mf 175 177 26,gf 175 178 (.bin .eql (t 176) (t 177)),gt 172 179 (.pick (t 175) k1 (t 178)),pa 180 172 179,m 181 180,mt 181 182 29,gt 181 183 (.not (t 182)),mt 181 184 183,mf 184 185 32,mf 184 186 185,mt 186 187 31,mt 186 188 28,gt 186 189 (.bin .leq (t 187) (t 188)),gf 184 190 (.pick (t 186) (t 189) k0),gt 181 191 (.pick (t 184) k1 (t 190)),pa 192 181 191,m 6 192] .ret))))))))))))))))
def r65:List NRes:=[(.slot 6)]
theorem c65:IsN Tryz.prog 65 3 n65 r65:=isq [(3,3),(4,4),(36,3)] Tryz.func65
end Go.Proofs
end
section
open Go Go.LL Go.Z
namespace Go.Proofs
def n66:Zai:=(sq [o 3 (.lbox 3 [3,10] (t 0)),o 5 (.lbox 5 [5] (t 2)),o 6 (.lzero 6 [6] [z0,z0,s0,s0])] (sq [l 8 3 4 3,o 7 (.lzero 7 [7,13,14] [z0,z0,s0,s0]),ls 7 4 7 8] (sq [o 9 (.raw (.buildSlice 22 0 #[]) 22),f 10 2 3,ln 11 3 10,o 12 (.raw (.call (.mk (.builtin .append) #[(t 9),(t 11)] #[22,22])) 22),f 13 2 7,ls 7 1 13 12] (sq [f 14 2 7,ln 15 7 14,m 16 1,l 17 5 2 5,ia 18 5 15 16,o 19 (.fadr 0 (t 18)),st 49 19 17 0] (sq [l 20 7 4 7,ls 6 4 6 20] .ret)))))
def r66:List NRes:=[(.var 6 6 (some 4))]
theorem c66:IsN Tryz.prog 66 3 n66 r66:=isq [(3,3),(5,5),(6,6),(7,7),(10,3),(13,7),(14,7)] Tryz.func66
end Go.Proofs
end
section
open Go Go.LL
namespace Go.Proofs
theorem spf3 {p:Program}{t:TypeId}{n1 n2 n3:String}{t1 t2 t3 o1 o2 o3:Nat}{b:Bool}(h:spf p t=some ([(n1,t1,o1),(n2,t2,o2),(n3,t3,o3)],b)):∃ f1 f2 f3:Field,p.underlying t=some (.struct #[f1,f2,f3])∧(f1.name=n1∧f1.type=t1∧f1.offset=o1)∧(f2.name=n2∧f2.type=t2∧f2.offset=o2)∧(f3.name=n3∧f3.type=t3∧f3.offset=o3)∧p.stoodInHeld t=b:=by
 unfold spf at h
 split at h
 ·rename_i fs hu
  obtain⟨fs⟩:=fs
  simp only[Option.some.injEq,Prod.mk.injEq]at h
  obtain⟨h,h2⟩:=h
  match fs,h with
  | [f1,f2,f3],h=>
   simp only[List.map_cons,List.map_nil,List.cons.injEq,Prod.mk.injEq]at h
   exact⟨f1,f2,f3,hu,h.1,h.2.1,h.2.2.1,h2⟩
 ·simp at h
theorem s51:spf Tryz.prog 51=some ([("Point",3,0),("Gap",49,1)],false):=by kernel_rfl
theorem s59:spf Tryz.prog 59=some ([("Mark",49,0),("Board",49,2),("Width",3,4)],false):=by kernel_rfl
theorem a49:Zb7 Tryz.prog 49=some (some 2):=by kernel_rfl
section
variable  {P:Prg}[Tz P]{H:Hp}{g:Bool}{d:Nat}
theorem partA {t n:Nat}{cs:Array Value}{off:Nat}(h:Zb7 Tryz.prog t=some (some n))(Q:Value->Bool->Hp->Prop):wpL P.toPQ (part t cs off) Q g H↔Q (.agg (cs.extract off (off+n))) g H:=by
 obtain⟨i,h1,h2,h3⟩:=ZcM (agf (P:=P) h)
 simp only[part,Zaa,h3,if_true,Zap h1,h2,Zac]
theorem WbO {t:TypeId}(hs:spf Tryz.prog t=some ([("Before",3,0),("By",3,1)],false)∨spf Tryz.prog t=some ([("Low",3,0),("High",3,1)],false)){a b c e:Int}(Q:Bool->Bool->Hp->Prop):wpL P.toPQ (Op.equalIn (d+1+1) t (.agg #[vi a,vi b]) (.agg #[vi c,vi e])) Q g H↔Q (decide (a=c∧b=e)) g H:=by
 refine⟨fun h=>?_,eqP hs Q⟩
 have p1:∀ (x y:Int) (Q:Value->Bool->Hp->Prop) g H,wpL P.toPQ (part 3 #[vi x,vi y] 0) Q g H↔Q (vi x) g H:=fun x y Q g H=>ZgA rfl Q
 have p2:∀ (x y:Int) (Q:Value->Bool->Hp->Prop) g H,wpL P.toPQ (part 3 #[vi x,vi y] 1) Q g H↔Q (vi y) g H:=fun x y Q g H=>ZgA rfl Q
 rcases hs with hs | hs
 all_goals
  obtain⟨f1,f2,hu,⟨n1,t1,o1⟩,⟨n2,t2,o2⟩,hs⟩:=spf2 (p:=P.toProgram) (by rw[Tz.prog (P:=P)];exact hs)
  rw[Op.equalIn]at h
  simp only[Zaa,Zad hu,ZaU,hs,Bool.false_eq_true,if_false,Zac]at h
  simp only[n1,n2,t1,t2,o1,o2,Zaa,List.forIn_toArray,List.forIn_cons,List.forIn_nil]at h
  by_cases h1:a=c<;>by_cases h2:b=e<;>simp[p1,p2,eq3,Zaa,Zac,h1,h2]at h ⊢<;>exact h
def ckEq (a b:SCk):Bool:=decide (a.p=b.p∧a.gl=b.gl∧a.gh=b.gh)
def ptEq (a b:SPt):Bool:=decide (a.ml=b.ml∧a.mh=b.mh∧a.bl=b.bl∧a.bh=b.bh∧a.w=b.w)
theorem eq51 {a b:SCk}(Q:Bool->Bool->Hp->Prop)(hq:Q (ckEq a b) g H):wpL P.toPQ (Op.equalIn (d+1+1+1) 51 (.agg #[vi a.p,vi a.gl,vi a.gh]) (.agg #[vi b.p,vi b.gl,vi b.gh])) Q g H:=by
 have p1:∀ (x y z:Int) (Q:Value->Bool->Hp->Prop) g H,wpL P.toPQ (part 3 #[vi x,vi y,vi z] 0) Q g H↔Q (vi x) g H:=fun x y z Q g H=>ZgA rfl Q
 have p2:∀ (x y z:Int) (Q:Value->Bool->Hp->Prop) g H,wpL P.toPQ (part 49 #[vi x,vi y,vi z] 1) Q g H↔Q (.agg #[vi y,vi z]) g H:=fun x y z Q g H=>partA a49 Q
 obtain⟨f1,f2,hu,⟨n1,t1,o1⟩,⟨n2,t2,o2⟩,hs⟩:=spf2 (p:=P.toProgram) (by rw[Tz.prog (P:=P)];exact s51)
 rw[Op.equalIn]
 simp only[Zaa,Zad hu,ZaU,hs,Bool.false_eq_true,if_false,Zac]
 simp only[n1,n2,t1,t2,o1,o2,Zaa,List.forIn_toArray,List.forIn_cons,List.forIn_nil]
 unfold ckEq at hq
 by_cases h1:a.p=b.p<;>by_cases h2:a.gl=b.gl<;>by_cases h3:a.gh=b.gh<;>simp[p1,p2,eq3,WbO (.inr s49),Zaa,Zac,h1,h2,h3]at hq ⊢<;>exact hq
theorem eq59 {a b:SPt}(Q:Bool->Bool->Hp->Prop)(hq:Q (ptEq a b) g H):wpL P.toPQ (Op.equalIn (d+1+1+1) 59 (.agg #[vi a.ml,vi a.mh,vi a.bl,vi a.bh,vi a.w]) (.agg #[vi b.ml,vi b.mh,vi b.bl,vi b.bh,vi b.w])) Q g H:=by
 have p1:∀ (x y z u v:Int) (Q:Value->Bool->Hp->Prop) g H,wpL P.toPQ (part 49 #[vi x,vi y,vi z,vi u,vi v] 0) Q g H↔Q (.agg #[vi x,vi y]) g H:=fun x y z u v Q g H=>partA a49 Q
 have p2:∀ (x y z u v:Int) (Q:Value->Bool->Hp->Prop) g H,wpL P.toPQ (part 49 #[vi x,vi y,vi z,vi u,vi v] 2) Q g H↔Q (.agg #[vi z,vi u]) g H:=fun x y z u v Q g H=>partA a49 Q
 have p3:∀ (x y z u v:Int) (Q:Value->Bool->Hp->Prop) g H,wpL P.toPQ (part 3 #[vi x,vi y,vi z,vi u,vi v] 4) Q g H↔Q (vi v) g H:=fun x y z u v Q g H=>ZgA rfl Q
 obtain⟨f1,f2,f3,hu,⟨n1,t1,o1⟩,⟨n2,t2,o2⟩,⟨n3,t3,o3⟩,hs⟩:=spf3 (p:=P.toProgram) (by rw[Tz.prog (P:=P)];exact s59)
 rw[Op.equalIn]
 simp only[Zaa,Zad hu,ZaU,hs,Bool.false_eq_true,if_false,Zac]
 simp only[n1,n2,n3,t1,t2,t3,o1,o2,o3,Zaa,List.forIn_toArray,List.forIn_cons,List.forIn_nil]
 unfold ptEq at hq
 have e1:(a.ml=b.ml∧a.mh=b.mh∧a.bl=b.bl∧a.bh=b.bh∧a.w=b.w)↔((a.ml=b.ml∧a.mh=b.mh)∧(a.bl=b.bl∧a.bh=b.bh)∧a.w=b.w):=by constructor<;>(intro h;simp_all)
 simp only[e1]at hq
 by_cases h1:(a.ml=b.ml∧a.mh=b.mh)<;>by_cases h2:(a.bl=b.bl∧a.bh=b.bh)<;>by_cases h3:a.w=b.w<;>simp only[h1,h2,h3,and_self,and_true,true_and,and_false,false_and,decide_true,decide_false]at hq<;>simp[p1,p2,p3,eq3,WbO (.inr s49),Zaa,Zac,h1,h2,h3]<;>exact hq
end
end Go.Proofs
end
section
open Go Go.LL
namespace Go.Proofs
theorem g51:eqGB Tryz.prog 51=false:=by kernel_rfl
theorem g59:eqGB Tryz.prog 59=false:=by kernel_rfl
section
variable  {P:Prg}[Tz P]{H:Hp}{d:Option Nat}{next:NSt->Hp->Prop}{σ:NSt}{x y:Operand}{ty t2:TypeId}{v:Value}
end
end Go.Proofs
end
section
open Go Go.LL Go.Z
namespace Go.Proofs
def n10:Zai:=(sq [o 6 (.lbox 6 [6,61,104,134] (t 0)),o 7 (.lbox 7 [7] (t 1)),o 9 (.lbox 9 [9] (t 3)),m0 12] (.seq (sq [l 17 6 4 6,c1 18 48 17,o 19 (.not (t 18))] (.cond (t 19) (sq [c0 20 18,m 12 20] .ret) .skip)) (sq [l 22 6 4 6,l 23 7 3 7,c2 24 41 22 23,m 21 24,x 25 21 0,x 26 21 1,o 13 (.lzero 13 [13] [z0,z0,s0,s0]),ls 13 4 13 25,m 14 26] (.seq (.seq (.drawn [(m 27 14,none),(bk 28 .eql 27 0,none),(m 29 28,none),(gt 29 30 (.lld 13 (some 4) 13),none),(gt 29 31 (.lld 6 (some 4) 6),none),(gt 29 32 (.lld 7 (some 3) 7),none),(gt 29 33 (.call 51 [(t 31),(t 32)]),(some false)),(gt 29 34 (.call 43 [(t 30),(t 33)]),none),(gt 29 35 (.not (t 34)),none),(mt 29 36 35,none),(gf 36 37 (.lld 13 (some 4) 13),none),(gf 36 38 (.call 64 [(t 37)]),none),(gf 36 39 (.bin .neq (t 38) (k 0)),none),(gt 29 40 (.pick (t 36) k1 (t 39)),none),(mt 29 41 40,none),(gf 41 42 (.lld 6 (some 4) 6),none),(gf 41 43 (.lld 13 (some 4) 13),none),(mf 41 44 5,none),(gf 41 45 (.call 65 [(t 42),(t 43),(t 44)]),none),(gf 41 46 (.not (t 45)),none),(gt 29 47 (.pick (t 41) k1 (t 46)),none),(pa 48 29 47,none),(m 49 48,none),(mf 49 50 14,none),(gf 49 51 (.bin .neq (t 50) (k 0)),none),(mf 49 52 51,none),(gt 52 53 (.lld 13 (some 4) 13),none),(gt 52 54 (.build [z0,z0,s0,s0] []),none),(gt 52 55 (.call 43 [(t 53),(t 54)]),none),(gt 52 56 (.not (t 55)),none),(gf 49 57 (.pick (t 52) (t 56) k0),none),(po 58 49 57,none)]) (.cond (t 58) (sq [m0 12] .ret) .skip)) (sq [m 59 4,o 60 (.pur (.convert 5 3 (t 59)) 3),f 61 1 6,ln 62 6 61,bk 63 .add 62 1,o 64 (.pur (.binOp .rem 3 (t 60) (t 63) 3) 3),m 15 64] (sq [l 66 6 4 6,m 67 15,c2 68 46 66 67,m 65 68,x 69 65 0,x 70 65 1,ls 13 4 13 69,m 14 70] (.seq (.seq (.drawn [(m 71 14,none),(bk 72 .eql 71 0,none),(m 73 72,none),(gt 73 74 (.lld 13 (some 4) 13),none),(gt 73 75 (.lld 6 (some 4) 6),none),(mt 73 76 15,none),(gt 73 77 (.call 52 [(t 75),(t 76)]),(some false)),(gt 73 78 (.call 43 [(t 74),(t 77)]),none),(gt 73 79 (.not (t 78)),none),(mt 73 80 79,none),(gf 80 81 (.lld 6 (some 4) 6),none),(gf 80 82 (.lld 13 (some 4) 13),none),(mf 80 83 5,none),(gf 80 84 (.call 65 [(t 81),(t 82),(t 83)]),none),(gf 80 85 (.not (t 84)),none),(gt 73 86 (.pick (t 80) k1 (t 85)),none),(pa 87 73 86,none),(m 88 87,none),(mf 88 89 14,none),(gf 88 90 (.bin .neq (t 89) (k 0)),none),(mf 88 91 90,none),(mt 91 92 14,none),(gt 91 93 (.bin .neq (t 92) (k 9)),none),(mt 91 94 93,none),(gf 94 95 (.lld 13 (some 4) 13),none),(gf 94 96 (.build [z0,z0,s0,s0] []),none),(gf 94 97 (.call 43 [(t 95),(t 96)]),none),(gf 94 98 (.not (t 97)),none),(gt 91 99 (.pick (t 94) k1 (t 98)),none),(gf 88 100 (.pick (t 91) (t 99) k0),none),(po 101 88 100,none)]) (.cond (t 101) (sq [m0 12] .ret) .skip)) (sq [m 102 2,o 103 (.pur (.convert 5 3 (t 102)) 3),f 104 2 6,ln 105 6 104,le 106 105,o 107 (.pur (.binOp .rem 3 (t 103) (t 106) 3) 3),m 16 107] (sq [l 109 6 4 6,m 110 16,l 111 9 2 9,c3 112 44 109 110 111,m 108 112,x 113 108 0,x 114 108 1,ls 13 4 13 113,m 14 114] (.seq (sq [m 115 14,bk 116 .neq 115 0] (.cond (t 116) (sq [m 117 14,bk 118 .eql 117 1,m 119 118,mf 119 120 14,gf 119 121 (.bin .eql (t 120) (k 9)),po 122 119 121,m 123 122,gt 123 124 (.lld 13 (some 4) 13),gt 123 125 (.build [z0,z0,s0,s0] []),gt 123 126 (.call 43 [(t 124),(t 125)]),pa 127 123 126,m 128 127,gt 128 129 (.call 18 []),pa 130 128 129,m 12 130] .ret) .skip)) (.seq (.drawn [(l 131 13 4 13,none),(l 132 6 4 6,none),(m 133 16,none),(f 134 2 6,none),(ln 135 6 134,none),(m 136 16,none),(ia 137 5 135 136,none),(o 138 (.fadr 0 (t 137)),none),(lm 139 2 138,none),(l 140 9 2 9,none),(c2 141 67 139 140,(some false)),(c3 142 66 132 133 141,(some false)),(c2 143 43 131 142,none),(m 144 143,none),(gt 144 145 (.lld 13 (some 4) 13),none),(gt 144 146 (.call 64 [(t 145)]),none),(gt 144 147 (.bin .eql (t 146) (k 0)),none),(pa 148 144 147,none),(m 149 148,none),(gt 149 150 (.lld 6 (some 4) 6),none),(gt 149 151 (.lld 13 (some 4) 13),none),(mt 149 152 5,none),(gt 149 153 (.call 65 [(t 150),(t 151),(t 152)]),none),(pa 154 149 153,none),(m 155 154,none),(gt 155 156 (.call 18 []),none),(pa 157 155 156,none),(m 12 157,none)]) .ret)))))))))))
def r10:List NRes:=[(.slot 12)]
theorem c10:IsN Tryz.prog 10 6 n10 r10:=isq [(6,6),(7,7),(9,9),(13,13),(61,6),(104,6),(134,6)] Tryz.func10
end Go.Proofs
end
section
open Go Go.LL
namespace Go.Proofs
def Wah (b:Bk)(i:Nat):List Int:=(List.range ((ptAt b i).mh-(ptAt b i).ml+1).toNat).map fun (t:Nat)=>(ptAt b i).ml+t
def mkL (b:Bk):Nat->List (List Int)
 | 0=>[[]]
 | i+1=>(mkL b i).flatMap fun l=>(Wah b i).map fun n=>l++[n]
theorem mk_mem {b:Bk}(v:Zeo b):∀ i,i<=b.pts.length->∀ l∈mkL b i,l.length=i∧∀ x∈l,0<=x∧x<=99
 | 0,_,l,hl=>by
  rw[mkL,List.mem_singleton]at hl
  subst hl;simp
 | i+1,hi,l,hl=>by
  rw[mkL,List.mem_flatMap]at hl
  obtain⟨m,hm,hl⟩:=hl
  obtain⟨n,hn,rfl⟩:=List.mem_map.1 hl
  obtain⟨h1,h2⟩:=mk_mem v i (by omega) m hm
  refine⟨by simp[h1],fun x hx=>?_⟩
  rcases List.mem_append.1 hx with hx | hx
  ·exact h2 x hx
  ·rw[List.mem_singleton.1 hx]
   rw[Wah,List.mem_map]at hn
   obtain⟨t,ht,rfl⟩:=hn
   rw[List.mem_range]at ht
   rw[show ptAt b i=b.pts[i] from Zbd (by omega) _]at ht ⊢
   have:=v.pts i (by omega)
   omega
section
variable  {P:Prg}[Tz P][Loud P]{H:Hp}
set_option maxHeartbeats 4000000
set_option maxRecDepth 20000
end
end Go.Proofs
end
section
open Go Go.LL
namespace Go.Proofs
def bodyF (b:Bk)(l:List Int)(ks:List Slip):List Boat:=(ks.map fun k=>(⟨n4of l,k.bf,k.by_⟩:Boat)).filter (ZgQ b)
def Wa2 (hi:Int):Nat->List Int
 | 0=>[]
 | c+1=>(hi-c) :: Wa2 hi c
theorem WaH (f:Int->List Boat)(hi:Int):∀ c,spanR f hi c=(Wa2 hi c).flatMap f
 | 0=>rfl
 | c+1=>by rw[spanR,Wa2,List.flatMap_cons,WaH f hi c]
theorem Wa1 {hi:Int}:∀ {c:Nat},(Wa2 hi c).length=c∧∀ t,t<c->(Wa2 hi c)[t]? = some (hi-(c-1-t:Nat))
 | 0=>⟨rfl,fun t h=>by omega⟩
 | c+1=>by
  obtain⟨h1,h2⟩:=@Wa1 hi c
  refine⟨by rw[Wa2,List.length_cons,h1],fun t ht=>?_⟩
  rw[Wa2]
  cases t with
  | zero=>simp
  | succ t=>rw[List.getElem?_cons_succ,h2 t (by omega)];congr 2;omega
theorem spanL_eq {b:Bk}{i:Nat}:Wa2 (ptAt b i).mh ((ptAt b i).mh-(ptAt b i).ml+1).toNat=Wah b i:=by
 obtain⟨h1,h2⟩:=@Wa1 (ptAt b i).mh ((ptAt b i).mh-(ptAt b i).ml+1).toNat
 have hl:(Wah b i).length=((ptAt b i).mh-(ptAt b i).ml+1).toNat:=by simp[Wah]
 refine List.ext_getElem? fun t=>?_
 by_cases ht:t<((ptAt b i).mh-(ptAt b i).ml+1).toNat
 ·rw[h2 t ht,Wah,List.getElem?_map,List.getElem?_range ht]
  show some ((ptAt b i).mh-((((ptAt b i).mh-(ptAt b i).ml+1).toNat-1-t:Nat):Int))=some ((ptAt b i).ml+(t:Int))
  congr 1;omega
 ·rw[List.getElem?_eq_none (by omega),List.getElem?_eq_none (by omega)]
def lvN (b:Bk):Nat->List N4
 | 0=>[⟨0,0,0,0⟩]
 | i+1=>(lvN b i).flatMap fun m=>(Wah b i).map fun n=>m.put i n
theorem Wap {α β γ:Type}(l:List α)(f:α->List β)(g:β->List γ):(l.flatMap f).flatMap g=l.flatMap fun a=>(f a).flatMap g:=by
 induction l with
 | nil=>rfl
 | cons a l ih=>simp[List.flatMap_cons,List.flatMap_append,ih]
theorem Wac {α β γ:Type}(l:List α)(f:α->β)(g:β->List γ):(l.map f).flatMap g=l.flatMap fun a=>g (f a):=by
 induction l with
 | nil=>rfl
 | cons a l ih=>simp[List.flatMap_cons,ih]
theorem WaG {α β:Type}{l:List α}{f g:α->List β}(h:∀ a∈l,f a=g a):l.flatMap f=l.flatMap g:=by
 induction l with
 | nil=>rfl
 | cons a l ih=>rw[List.flatMap_cons,List.flatMap_cons,h a (List.mem_cons_self ..),ih fun x hx=>h x (List.mem_cons_of_mem _ hx)]
theorem lv_step {b:Bk}{r i:Nat}(h:b.pts.length=i+(r+1)):(lvN b (i+1)).flatMap (boatsFrom b r)=(lvN b i).flatMap (boatsFrom b (r+1)):=by
 rw[lvN,Wap]
 congr 1
 funext m
 rw[Wac,boatsFrom,WaH]
 have e:b.pts.length-(r+1)=i:=by omega
 rw[e,spanL_eq]
theorem lv_all {b:Bk}:∀ (r i:Nat),b.pts.length=i+r->(lvN b i).flatMap (boatsFrom b r)=(lvN b b.pts.length).flatMap (boatsFrom b 0)
 | 0,i,h=>by rw[h,Nat.add_zero]
 | r+1,i,h=>by rw[<-lv_step h];exact lv_all r (i+1) (by omega)
theorem boats_lv (b:Bk):Zae b=(lvN b b.pts.length).flatMap (boatsFrom b 0):=by
 rw[<-lv_all b.pts.length 0 (by omega)]
 simp[lvN,Zae]
theorem Wab {l:List Int}{j:Nat}(hj:j<4):(n4of l).get j=l.getD j 0:=N4.of_get _ hj
theorem lv_mk {b:Bk}(v:Zeo b):∀ i,i<=b.pts.length->lvN b i=(mkL b i).map n4of
 | 0,_=>rfl
 | i+1,hi=>by
  have hi4:i<4:=by have:=v.n;omega
  rw[lvN,lv_mk v i (by omega),mkL,Wac,List.map_flatMap]
  refine WaG fun l hl=>?_
  rw[List.map_map]
  refine List.map_congr_left fun n _=>?_
  obtain⟨h1,_⟩:=mk_mem v i (by omega) l hl
  refine N4.ext' fun j hj=>?_
  rw[N4.put_get _ _ hj,Wab hj]
  show _=(n4of (l++[n])).get j
  rw[Wab hj]
  simp only[List.getD_eq_getElem?_getD]
  by_cases e:j=i
  ·subst e
   rw[if_pos rfl,List.getElem?_append_right (by omega),h1]
   simp
  ·rw[if_neg e]
   by_cases e2:j<i
   ·rw[List.getElem?_append_left (by omega)]
   ·rw[List.getElem?_eq_none (by omega),List.getElem?_eq_none (by rw[List.length_append,List.length_singleton];omega)]
theorem Wbs {b:Bk}(v:Zeo b):Zae b=(mkL b b.pts.length).flatMap fun l=>bodyF b l (ZaC b):=by
 rw[boats_lv,lv_mk v _ (Nat.le_refl _),Wac]
 rfl
section
variable  {P:Prg}[Tz P][Loud P]{H:Hp}
set_option maxHeartbeats 4000000
set_option maxRecDepth 20000
end
end Go.Proofs
end
section
open Go Go.LL
namespace Go.Proofs
def insD (x:Int):List Int->List Int
 | []=>[x]
 | y :: r=>if y<x then y :: insD x r else if y=x then y :: r else x :: y :: r
def ordF (l:List Int):List Int:=l.foldl (fun o x=>insD x o) []
theorem Wbp (x:Int):∀ l,(insD x l).length<=l.length+1
 | []=>by simp[insD]
 | y :: r=>by
  rw[insD]
  have:=Wbp x r
  split
  ·simp only[List.length_cons];omega
  ·split<;>simp
theorem Wbn:∀ l:List Int,(ordF l).length<=l.length:=by
 refine Zfm (by simp[ordF]) fun l x ih=>?_
 have:=Wbp x (ordF l)
 rw[ordF,List.foldl_append,List.length_append,List.length_singleton]
 show (insD x (ordF l)).length<=_
 omega
section
variable  {P:Prg}[Tz P][Loud P]{H:Hp}
set_option maxHeartbeats 4000000
set_option maxRecDepth 20000
end
end Go.Proofs
end
section
open Go Go.LL
namespace Go.Proofs
section
variable  {P:Prg}[Tz P][Loud P]{H:Hp}
set_option maxHeartbeats 4000000
set_option maxRecDepth 20000
def byN (x:Boat):Bool:=!decide (x.by_=0)
end
end Go.Proofs
end
section
open Go Go.LL
namespace Go.Proofs
def slEq (k:Slip)(x:Boat):Bool:=decide (x.bf=k.bf∧x.by_=k.by_)
def slipsR (b:Bk):List Slip:=((ZaC b).drop 1).filter fun k=>(Zae b).any (slEq k)
section
variable  {P:Prg}[Tz P][Loud P]{H:Hp}
set_option maxHeartbeats 4000000
set_option maxRecDepth 20000
end
end Go.Proofs
end
section
open Go Go.LL
namespace Go.Proofs
theorem Wa0:∀ {l m:List Int},l.Pairwise (·<·)->m.Pairwise (·<·)->(∀ x,x∈l↔x∈m)->l=m
 | [],[],_,_,_=>rfl
 | [],y :: m,_,_,h=>by have:=(h y).2 (List.mem_cons_self ..);simp at this
 | x :: l,[],_,_,h=>by have:=(h x).1 (List.mem_cons_self ..);simp at this
 | x :: l,y :: m,hl,hm,h=>by
  obtain⟨l1,l2⟩:=List.pairwise_cons.1 hl
  obtain⟨m1,m2⟩:=List.pairwise_cons.1 hm
  have exy:x=y:=by
   have h1:=(h x).1 (List.mem_cons_self ..)
   have h2:=(h y).2 (List.mem_cons_self ..)
   rcases List.mem_cons.1 h1 with rfl | h1
   ·rfl
   ·rcases List.mem_cons.1 h2 with rfl | h2
    ·rfl
    ·have:=l1 y h2;have:=m1 x h1;omega
  subst exy
  congr 1
  refine Wa0 l2 m2 fun z=>⟨fun hz=>?_,fun hz=>?_⟩
  ·rcases List.mem_cons.1 ((h z).1 (List.mem_cons_of_mem _ hz)) with rfl | hz'
   ·have:=l1 z hz;omega
   ·exact hz'
  ·rcases List.mem_cons.1 ((h z).2 (List.mem_cons_of_mem _ hz)) with rfl | hz'
   ·have:=m1 z hz;omega
   ·exact hz'
theorem WaV (x:Int):∀ (l:List Int) (z:Int),z∈insD x l↔z=x∨z∈l
 | [],z=>by simp[insD]
 | y :: r,z=>by
  rw[insD]
  have ih:=WaV x r z
  split
  ·rw[List.mem_cons,ih,List.mem_cons]
   constructor
   ·rintro(h | h | h)
    ·exact .inr (.inl h)
    ·exact .inl h
    ·exact .inr (.inr h)
   ·rintro(h | h | h)
    ·exact .inr (.inl h)
    ·exact .inl h
    ·exact .inr (.inr h)
  ·split
   ·rename_i h;subst h;rw[List.mem_cons]
    constructor
    ·exact .inr
    ·rintro(h | h)
     ·exact .inl h
     ·exact h
   ·rw[List.mem_cons]
theorem WbJ (x:Int):∀ {l:List Int},l.Pairwise (·<·)->(insD x l).Pairwise (·<·)
 | [],_=>by simp[insD]
 | y :: r,h=>by
  obtain⟨h1,h2⟩:=List.pairwise_cons.1 h
  rw[insD]
  split
  ·rename_i hy
   refine List.pairwise_cons.2 ⟨fun z hz=>?_,WbJ x h2⟩
   rcases(WaV x r z).1 hz with rfl | hz
   ·exact hy
   ·exact h1 z hz
  ·split
   ·exact h
   ·refine List.pairwise_cons.2 ⟨fun z hz=>?_,h⟩
    rcases List.mem_cons.1 hz with rfl | hz
    ·omega
    ·have:=h1 z hz;omega
theorem Waq:∀ l:List Int,(ordF l).Pairwise (·<·)∧∀ z,z∈ordF l↔z∈l:=by
 refine Zfm ⟨.nil,fun z=>Iff.rfl⟩ fun l x ih=>?_
 have e:ordF (l++[x])=insD x (ordF l):=by rw[ordF,List.foldl_append];rfl
 rw[e]
 refine⟨WbJ x ih.1,fun z=>?_⟩
 rw[WaV,ih.2 z,List.mem_append,List.mem_singleton]
 exact Or.comm
theorem Wbr {l:List Int}(h:l.Pairwise (·<=·)):∀ n,n<=l.length->(cmpP l n).Pairwise (·<·)∧(∀ z,z∈cmpP l n↔z∈l.take n)∧(∀ z∈cmpP l n,z<=el l (n-1))
 | 0,_=>⟨.nil,fun z=>by simp[cmpP],fun z hz=>by simp[cmpP]at hz⟩
 | n+1,hn=>by
  obtain⟨h1,h2,h3⟩:=Wbr h n (by omega)
  have hmono:∀ i j,i<=j->j<l.length->el l i<=el l j:=by
   intro i j hij hj
   rw[Zhf (by omega),Zhf hj]
   rcases Nat.lt_or_ge i j with h' | h'
   ·exact List.pairwise_iff_getElem.1 h i j (by omega) hj h'
   ·have:i=j:=by omega
    subst this;exact Int.le_refl _
  rw[Zi7 (by omega)]
  by_cases h0:n=0
  ·subst h0
   rw[cmp_one]
   exact⟨List.pairwise_singleton _ _,fun z=>by simp,fun z hz=>by rw[List.mem_singleton.1 hz];exact Int.le_refl _⟩
  ·by_cases he:el l n=el l (n-1)
   ·rw[cmp_eq h0 he]
    refine⟨h1,fun z=>?_,fun z hz=>?_⟩
    ·rw[h2,List.mem_append,List.mem_singleton]
     constructor
     ·exact .inl
     ·rintro(hz | rfl)
      ·exact hz
      ·rw[he]
       have e2:n=(n-1)+1:=by omega
       rw[e2,Zi7 (by omega)]
       simp
    ·have:=h3 z hz;rw[Nat.add_sub_cancel,he];exact this
   ·rw[cmp_ne he]
    refine⟨?_,fun z=>?_,fun z hz=>?_⟩
    ·rw[List.pairwise_append]
     refine⟨h1,List.pairwise_singleton _ _,fun a ha c hc=>?_⟩
     rw[List.mem_singleton.1 hc]
     have g1:=h3 a ha
     have g2:=hmono (n-1) n (by omega) (by omega)
     omega
    ·rw[List.mem_append,h2,List.mem_append]
    ·rw[Nat.add_sub_cancel]
     rcases List.mem_append.1 hz with hz | hz
     ·have g1:=h3 z hz
      have g2:=hmono (n-1) n (by omega) (by omega)
      omega
     ·rw[List.mem_singleton.1 hz];exact Int.le_refl _
theorem WbP {l m:List Int}(h:l.Pairwise (·<=·))(hm:∀ z,z∈l↔z∈m):cmpF l=ordF m:=by
 obtain⟨h1,h2,_⟩:=Wbr h l.length (Nat.le_refl _)
 obtain⟨h3,h4⟩:=Waq m
 exact Wa0 h1 h3 fun z=>by rw[cmpF,h2,h4,List.take_length];exact hm z
theorem Wa9 {b:Bk}(v:Zeo b){x:Boat}(h:x∈Zae b):(⟨x.bf,x.by_⟩:Slip)∈ZaC b:=by
 rw[Wbs v]at h
 obtain⟨l,_,h⟩:=List.mem_flatMap.1 h
 obtain⟨k,hk,rfl⟩:=List.mem_map.1 (List.mem_filter.1 h).1
 exact hk
theorem Was {b:Bk}(v:Zeo b){k:Slip}(h:k∈(ZaC b).drop 1):(1<=k.bf∧k.bf<b.pts.length)∧-b.sl<=k.by_∧k.by_<=b.sl∧k.by_≠0:=by
 have:=v.sl
 have:=v.n
 have h:=Zj7 (n:=b.pts.length) (sl:=b.sl.toNat) _ (by omega) k h
 omega
theorem WaI {b:Bk}{k:Slip}(h:k∈ZaC b):k=⟨0,0⟩∨k∈(ZaC b).drop 1:=List.mem_cons.1 h
theorem Wbx {b:Bk}(v:Zeo b){x:Boat}(h:x∈Zae b):x.slipped=byN x:=by
 rcases WaI (Wa9 v h) with h1 | h1
 ·simp only[Slip.mk.injEq]at h1
  simp[Boat.slipped,byN,h1]
 ·have:=(Was v h1).2.2.2
  simp only at this
  simp[Boat.slipped,byN,this]
theorem WaF {b:Bk}(v:Zeo b):(Zae b).filter Boat.slipped=(Zae b).filter byN:=List.filter_congr fun x hx=>Wbx v hx
theorem slips_eq {b:Bk}(v:Zeo b):ZjU b=slipsR b:=by
 have h0:ZaC b=⟨0,0⟩ :: (ZaC b).drop 1:=rfl
 rw[ZjU,h0,List.filter_cons,slipsR]
 have hno:((Zae b).any (ZfN ⟨0,0⟩))=false:=by
  rw[List.any_eq_false]
  intro x _
  simp only[ZfN,Boat.slipped]
  by_cases h:x.bf=0∧x.by_=0<;>simp[h]
 rw[hno,if_neg (by simp)]
 refine List.filter_congr fun k hk=>?_
 have hk0:=(Was v hk).2.2.2
 rw[Bool.eq_iff_iff,List.any_eq_true,List.any_eq_true]
 constructor
 ·rintro⟨x,hx,h⟩
  exact⟨x,hx,by simp only[ZfN,Bool.and_eq_true]at h;exact h.2⟩
 ·rintro⟨x,hx,h⟩
  refine⟨x,hx,?_⟩
  have h:=of_decide_eq_true h
  simp only[ZfN,Boat.slipped,h,Bool.and_eq_true]
  simp[hk0]
theorem Wad {bf:Int}{sl:Nat}:∀ r,∀ k∈innerR bf sl r,k.bf=bf
 | 0,k,h=>by simp[innerR]at h
 | r+1,k,h=>by
  rw[innerR]at h
  split at h
  ·exact Wad r k h
  ·rcases List.mem_cons.1 h with rfl | h
   ·rfl
   ·exact Wad r k h
theorem WaS {n sl:Nat}:∀ r,∀ k∈outerR n sl r,(n:Int)-r<=k.bf
 | 0,k,h=>by simp[outerR]at h
 | r+1,k,h=>by
  rw[outerR]at h
  rcases List.mem_append.1 h with h | h
  ·have:=Wad _ k h;omega
  ·have:=WaS r k h;omega
theorem pw_const {l:List Slip}{c:Int}(h:∀ k∈l,k.bf=c):l.Pairwise fun a d=>a.bf<=d.bf:=by
 induction l with
 | nil=>exact .nil
 | cons a l ih=>
  refine List.pairwise_cons.2 ⟨fun d hd=>?_,ih fun k hk=>h k (List.mem_cons_of_mem _ hk)⟩
  rw[h a (List.mem_cons_self ..),h d (List.mem_cons_of_mem _ hd)];exact Int.le_refl _
theorem Wao {n sl:Nat}:∀ r,(outerR n sl r).Pairwise fun a d=>a.bf<=d.bf
 | 0=>.nil
 | r+1=>by
  rw[outerR,List.pairwise_append]
  refine⟨pw_const fun k hk=>Wad _ k hk,Wao r,fun a ha d hd=>?_⟩
  have h1:=Wad _ a ha
  have h2:=WaS r d hd
  omega
theorem Wbb {b:Bk}(v:Zeo b):whenL b=ordF (((Zae b).filter byN).map Boat.bf):=by
 rw[whenL,slips_eq v]
 refine WbP ?_ fun z=>?_
 ·rw[List.pairwise_map]
  exact(Wao _).sublist List.filter_sublist
 ·rw[List.mem_map,List.mem_map]
  constructor
  ·rintro⟨k,hk,rfl⟩
   obtain⟨h1,h2⟩:=List.mem_filter.1 hk
   obtain⟨x,hx,h3⟩:=List.any_eq_true.1 h2
   have h3:=of_decide_eq_true h3
   refine⟨x,List.mem_filter.2 ⟨hx,?_⟩,h3.1⟩
   have:=(Was v h1).2.2.2
   simp[byN,h3.2,this]
  ·rintro⟨x,hx,rfl⟩
   obtain⟨h1,h2⟩:=List.mem_filter.1 hx
   refine⟨⟨x.bf,x.by_⟩,List.mem_filter.2 ⟨?_,List.any_eq_true.2 ⟨x,h1,by simp[slEq]⟩⟩,rfl⟩
   rcases WaI (Wa9 v h1) with h | h
   ·simp only[Slip.mk.injEq]at h
    simp[byN,h.2]at h2
   ·exact h
theorem gap_eq {b:Bk}{p:Nat}{m:List Int}(hm:m=(Zae b).map fun x=>(Zas b x).get p):gapL b p=ordF m:=by
 rw[gapL]
 exact WbP (srt_le _) fun z=>by rw[(Zfk _).mem_iff,hm]
end Go.Proofs
end
section
open Go Go.LL
namespace Go.Proofs
theorem WbH {α:Type}[Enc α]{H0 H:Hp}{E:TypeId}{v:Value}{l:List α}{b:Option Nat}(h:Own H0 H E v l b):∃ A c,v=.slice A l.length c:=by
 obtain⟨A,c,h1,_⟩:=h.sl
 exact⟨A,c,h1⟩
section
variable  {P:Prg}[Tz P][Loud P]{H:Hp}
set_option maxHeartbeats 8000000
set_option maxRecDepth 40000
end
end Go.Proofs
end
section
open Go Go.LL Go.Conc Go.ConcM
namespace Go.Proofs
open YtamdhefhhdgjbaaGreatDoor Go.ChangeShapes Go.WideShapes
section
set_option maxRecDepth 100000
variable  {H:Type}{enc:TypeId×Value->H}{W:World}{base:Nat}{sp:Nat->Bool}{held:Bool}{fuel:Nat}{cs:List Value}{y:DataW H×List MemPlace}{r:Reach}{b0:Nat}{v:Value}{d:DataW H}{ps:List MemPlace}
theorem Wbc (hval:Value.okWide Tryz.prog W r b0 5 v)(hd:DataW.Trod enc Tryz.prog W base sp held 5 v d ps):∃ n,v=.int .u8 n∧0<=n∧n<256:=by
 obtain⟨n,rfl,_,_,hw⟩:=open_int Tryz.underlying5 hval hd
 simp only[Lit.wf,Bool.and_eq_true,decide_eq_true_eq]at hw
 have h1:IntKind.u8.min=0:=rfl
 have h2:IntKind.u8.max=255:=rfl
 exact⟨n,rfl,by omega,by omega⟩
theorem Wbz (hval:Value.okWide Tryz.prog W r b0 51 v)(hd:DataW.Trod enc Tryz.prog W base sp held 51 v d ps):∃ c:SCk,v=.agg #[vi c.p,vi c.gl,vi c.gh]:=by
 obtain⟨fuel,hf⟩:=hd
 obtain⟨c,rfl⟩:=ZhQ Tryz.underlying51 hval
 obtain⟨x,hx⟩:=ck_trod hf
 obtain⟨c⟩:=c
 exact⟨x,by simpa[Value.cells,Enc.enc]using hx⟩
theorem WbE (hval:Value.okWide Tryz.prog W r b0 49 v)(hd:DataW.Trod enc Tryz.prog W base sp held 49 v d ps):∃ a b,v=.agg #[vi a,vi b]:=by
 obtain⟨fuel,hf⟩:=hd
 obtain⟨c,rfl⟩:=ZhQ Tryz.underlying49 hval
 obtain⟨a,b,hx⟩:=Zja hf
 obtain⟨c⟩:=c
 exact⟨a,b,by simpa[Value.cells]using hx⟩
end
end Go.Proofs
end
section
open Go Go.LL Go.Conc Go.ConcM
namespace Go.Proofs.YtamdhefhhdgjbaaGreatDoor
theorem WaD:Tryz.pinned.checked.prog.funcNamed Rows.spileLearntRow.func=some 10:=by kernel_rfl
theorem WaC:joinedFacts Tryz.pinned.checked.prog 10 Tryz.f10 Rows.spileLearntSpec Rows.spileLearntRow=true:=by kernel_rfl
theorem WaB:Tryz.f10.isInstance Tryz.pinned.checked.prog Rows.spileLearntRow.origin Rows.spileLearntRow.targs:=of_decide_eq_true (by kernel_rfl)
theorem WaA:Tryz.f10.isWrapper Tryz.pinned.checked.prog Rows.spileLearntRow.wrapper Rows.spileLearntRow.mainSum:=by unfold Func.isWrapper;first | (rw[if_pos (by decide +kernel)];kernel_rfl) | (rw[if_neg (by decide +kernel)];exact⟨rfl,rfl⟩)
end Go.Proofs.YtamdhefhhdgjbaaGreatDoor
end
