/- proofs about Leango given: part Ga0; made by a program out of the longer texts in wip -/
import Derived.Test.YtamdhefhhdgjbaaGreatDoorP44
set_option linter.all false
section
namespace Go.LL
section
variable  {P:Prg}{d:Option Nat}{r:List NI}{op:NOp}{Q:NSt->Hp->Prop}{next:NSt->Hp->Prop}{σ:NSt}{H:Hp}{x y z:Operand}{v:Value}
variable  {l:List (NI×Option Bool)}
variable  {Qe:Ex->NSt->Hp->Prop}{a b c:Zai}
end
section
variable  {P:Prg}{σ:NSt}{H:Hp}{Qe:Ex->NSt->Hp->Prop}{b:Zai}
theorem WaA {n j:Nat}{I:Nat->Hp->Prop}{env:Nat->List (Nat×Value)}{box:Nat->List (Nat×List Value)}{σ':NSt}{ds:List Deferred}(hj:j<n)(hI:I (j+1) H)(he:LeE (env (j+1)) σ')(hb:LeB (box (j+1)) σ')(hd:σ'.defs=ds) :
  ∃ j':{ j:Nat // j<=n },n-j'.1<n-j∧I j'.1 H∧LeE (env j'.1) σ'∧LeB (box j'.1) σ'∧σ'.defs=ds:=⟨⟨j+1,hj⟩,by show n-(j+1)<n-j;omega,hI,he,hb,hd⟩
end
end Go.LL
end
section
open Go Go.LL Go.Z
namespace Go.Proofs
def n67:Zai:=(sq [o 2 (.lbox 2 [2,5,10] (t 0)),o 3 (.lbox 3 [3,7,12] (t 1)),o 4 (.lzero 4 [4] [z0,z0])] (sq [f 5 0 2,ln 6 2 5,f 7 0 3,ln 8 3 7,o 9 (.pur (.call (.mk (.builtin .max) #[(t 6),(t 8)] #[3,3])) 3),f 10 1 2,ln 11 2 10,f 12 1 3,ln 13 3 12,o 14 (.pur (.call (.mk (.builtin .min) #[(t 11),(t 13)] #[3,3])) 3),o 15 (.build [z0,z0] [(0,(1,(t 9))),(1,(1,(t 14)))]),ls 4 2 4 15] .ret))
def r67:List NRes:=[(.var 4 4 (some 2))]
theorem c67:IsN Tryz.prog 67 2 n67 r67:=isq [(2,2),(3,3),(4,4),(5,2),(7,3),(10,2),(12,3)] Tryz.func67
def n77:Zai:=(sq [o 3 (.lbox 3 [3] (t 0)),o 5 (.lbox 5 [5] (t 2)),o 6 (.mov (.const s0)),mi 7 0] (.seq (sq [l 9 3 4 3,m 10 1,l 11 5 2 5,c3 12 139 9 10 11,m 8 12] (sq [m 13 8,bk 14 .neq 13 0] (.cond (t 14) (sq [m 15 8,o 6 (.mov (.const s0)),m 7 15] .ret) .skip))) (sq [l 16 3 4 3,m 17 1,l 18 5 2 5,c3 19 75 16 17 18,m 6 19,mi 7 0] .ret)))
def r77:List NRes:=[(.slot 6),(.slot 7)]
theorem c77:IsN Tryz.prog 77 3 n77 r77:=isq [(3,3),(5,5)] Tryz.func77
def n82:Zai:=(sq [o 1 (.lbox 1 [1,17,23] (t 0)),mi 2 0,mi 3 0,mi 4 0] (.seq (sq [l 11 1 4 1,c1 12 64 11,m 5 12] (sq [m 13 5,bk 14 .neq 13 0] (.cond (t 14) (sq [m 15 5,mi 2 0,mi 3 0,m 4 15] .ret) .skip))) (sq [mi 6 0,mi 7 999] (.seq (sq [mi 8 0] (.block 0 (.loop (.seq (sq [m 16 8,f 17 2 1,ln 18 1 17,le 19 18,b 20 .lss 16 19] (.cond (t 20) .skip (.exit 0))) (.seq (.block 1 (sq [f 23 2 1,ln 24 1 23,m 25 8,ia 26 5 24 25,lm 27 5 26,o 9 (.lzero 9 [9,28,29,31,32,35] [z0,z0,z0,z0,z0]),ls 9 5 9 27] (sq [f 28 2 9,f 29 1 28,ln 30 9 29,f 31 2 9,f 32 0 31,ln 33 9 32,b 34 .sub 30 33,f 35 4 9,ln 36 9 35,b 37 .sub 34 36,m 10 37] (sq [m 38 10,m 39 7,b 40 .lss 38 39] (.cond (t 40) (.ops [m 41 8,m 42 10,m 6 41,m 7 42]) .skip))))) (.ops [m 21 8,bk 22 .add 21 1,m 8 22])))))) (sq [m 43 6,m 44 7,m 2 43,m 3 44,mi 4 0] .ret)))))
def r82:List NRes:=[(.slot 2),(.slot 3),(.slot 4)]
theorem c82:IsN Tryz.prog 82 1 n82 r82:=isq [(1,1),(9,9),(17,1),(23,1),(28,9),(29,9),(31,9),(32,9),(35,9)] Tryz.func82
def n142:Zai:=(sq [o 2 (.lbox 2 [2,8,14] (t 0)),m0 4] (.seq (sq [mi 5 0] (.block 0 (.loop (.seq (sq [m 7 5,f 8 3 2,ln 9 2 8,le 10 9,b 11 .lss 7 10] (.cond (t 11) .skip (.exit 0))) (.seq (.block 1 (sq [f 14 3 2,ln 15 2 14,m 16 5,ia 17 3 15 16,lm 18 3 17,o 6 (.lzero 6 [6,20,24,25,27,28] [z0,z0,z0]),ls 6 3 6 18] (.seq (.drawn [(m 19 1,none),(f 20 0 6,none),(ln 21 6 20,none),(ia 22 1 19 21,none),(ld 23 22,none),(f 24 1 6,none),(f 25 0 24,none),(ln 26 6 25,none),(f 27 1 6,none),(f 28 1 27,none),(ln 29 6 28,none),(c3 30 53 23 26 29,none),(o 31 (.not (t 30)),none)]) (.cond (t 31) (sq [m0 4] .ret) .skip)))) (.ops [m 12 5,bk 13 .add 12 1,m 5 13])))))) (sq [m1 4] .ret)))
def r142:List NRes:=[(.slot 4)]
theorem c142:IsN Tryz.prog 142 2 n142 r142:=isq [(2,2),(6,6),(8,2),(14,2),(20,6),(24,6),(25,6),(27,6),(28,6)] Tryz.func142
end Go.Proofs
end
section
open Go Go.LL Go.Z
namespace Go.Proofs
def n143:Zai:=(sq [o 4 (.lbox 4 [4,12] (t 0)),mi 8 0] (.seq (sq [m 10 1,le 11 10,f 12 2 4,ln 13 4 12,le 14 13,b 15 .neq 11 14] (.cond (t 15) (sq [mi 8 2] .ret) .skip)) (.seq (sq [mi 9 0] (.block 0 (.loop (.seq (sq [m 16 9,m 17 1,le 18 17,b 19 .lss 16 18] (.cond (t 19) .skip (.exit 0))) (.seq (.block 1 (sq [m 22 1,m 23 9,ia 24 1 22 23,ld 25 24,m 26 2,m 27 3,c3 28 53 25 26 27,o 29 (.not (t 28))] (.cond (t 29) (sq [mi 8 1] .ret) .skip))) (.ops [m 20 9,bk 21 .add 20 1,m 9 21])))))) (sq [mi 8 0] .ret))))
def r143:List NRes:=[(.slot 8)]
theorem c143:IsN Tryz.prog 143 4 n143 r143:=isq [(4,4),(12,4)] Tryz.func143
end Go.Proofs
end
section
open Go Go.LL Go.Z
namespace Go.Proofs
def n79:Zai:=(sq [o 3 (.lbox 3 [3,26] (t 0)),o 5 (.lbox 5 [5] (t 2)),m0 6,mi 7 0] (sq [l 15 3 4 3,m 16 1,l 17 5 2 5,c3 18 137 15 16 17,m 14 18,x 19 14 0,x 20 14 1,x 21 14 2,o 8 (.lzero 8 [8] [z0,z0,s0,s0]),o 9 (.lzero 9 [9,36,37,56] [z0,z0,z0,z0,z0,z0]),ls 8 4 8 19,ls 9 6 9 20,m 10 21] (.seq (sq [m 22 10,bk 23 .neq 22 0] (.cond (t 23) (sq [m 24 10,m0 6,m 7 24] .ret) .skip)) (sq [l 25 9 6 9,o 11 (.lzero 11 [11,47,48,54] [z0,z0,z0,z0,z0,z0]),ls 11 6 11 25] (.seq (sq [f 26 2 3,ln 27 3 26,le 28 27,mi 29 0] (.block 0 (.loop (sq [b 30 .lss 29 28] (.seq (.cond (t 30) .skip (.exit 0)) (.seq (.block 1 (sq [m 31 29,ia 32 5 27 29,lm 33 5 32,o 13 (.lzero 13 [13,39,40,43,44] [z0,z0,z0,z0,z0]),m 12 31,ls 13 5 13 33] (.drawn [(m 34 12,none),(m 35 12,none),(f 36 0 9,none),(o 37 (.liadr 1 4 36 (t 35)),none),(ln 38 9 37,none),(f 39 0 13,none),(f 40 0 39,none),(ln 41 13 40,none),(o 42 (.pur (.call (.mk (.builtin .max) #[(t 38),(t 41)] #[3,3])) 3),none),(f 43 0 13,none),(f 44 1 43,none),(ln 45 13 44,none),(o 46 (.pur (.call (.mk (.builtin .min) #[(t 42),(t 45)] #[3,3])) 3),none),(f 47 0 11,none),(o 48 (.liadr 1 4 47 (t 34)),none),(ls 11 1 48 46,none)]))) (.ops [bk 49 .add 29 1,m 29 49]))))))) (sq [l 50 11 6 11,l 51 9 6 9,o 52 (.pur (.binOp .eql 121 (t 50) (t 51) 121) 4),m 53 52,gt 53 54 (.lfadr 0 11),gt 53 55 (.lld 11 (some 4) 54),gt 53 56 (.lfadr 0 9),gt 53 57 (.lld 9 (some 4) 56),gt 53 58 (.pur (.binOp .eql 119 (t 55) (t 57) 119) 4),pa 59 53 58,m 60 59,gt 60 61 (.lld 8 (some 4) 8),gt 60 62 (.lld 9 (some 6) 9),gt 60 63 (.call 140 [(t 61),(t 62)]),pa 64 60 63,m 6 64,mi 7 0] .ret))))))
def r79:List NRes:=[(.slot 6),(.slot 7)]
theorem c79:IsN Tryz.prog 79 3 n79 r79:=isq [(3,3),(5,5),(8,8),(9,9),(11,11),(13,13),(26,3),(36,9),(37,9),(39,13),(40,13),(43,13),(44,13),(47,11),(48,11),(54,11),(56,9)] Tryz.func79
def n104:Zai:=(sq [o 2 (.lbox 2 [2,15] (t 0)),o 4 (.lzero 4 [4] [z0,z0])] (sq [o 8 (.build [z0,z0] [(0,(1,(.const (.int .i64 (Int.negSucc 998))))),(1,(1,(k 999)))]),o 5 (.lzero 5 [5] [z0,z0]),ls 5 2 5 8] (.seq (sq [mi 6 0] (.block 0 (.loop (.seq (sq [m 9 6,m 10 1,le 11 10,b 12 .lss 9 11] (.cond (t 12) .skip (.exit 0))) (.seq (.block 1 (sq [f 15 2 2,ln 16 2 15,m 17 6,ia 18 5 16 17,lm 19 5 18,o 7 (.lzero 7 [7,21,22,29,30,32] [z0,z0,z0,z0,z0]),ls 7 5 7 19] (.drawn [(l 20 5 2 5,none),(f 21 2 7,none),(f 22 0 21,none),(ln 23 7 22,none),(m 24 1,none),(m 25 6,none),(ia 26 1 24 25,none),(ld 27 26,none),(b 28 .sub 23 27,none),(f 29 2 7,none),(f 30 1 29,none),(ln 31 7 30,none),(f 32 4 7,none),(ln 33 7 32,none),(b 34 .sub 31 33,none),(m 35 1,none),(m 36 6,none),(ia 37 1 35 36,none),(ld 38 37,none),(b 39 .sub 34 38,none),(o 40 (.build [z0,z0] [(0,(1,(t 28))),(1,(1,(t 39)))]),none),(c2 41 67 20 40,none),(ls 5 2 5 41,none)]))) (.ops [m 13 6,bk 14 .add 13 1,m 6 14])))))) (sq [l 42 5 2 5,ls 4 2 4 42] .ret))))
def r104:List NRes:=[(.var 4 4 (some 2))]
theorem c104:IsN Tryz.prog 104 2 n104 r104:=isq [(2,2),(4,4),(5,5),(7,7),(15,2),(21,7),(22,7),(29,7),(30,7),(32,7)] Tryz.func104
def n139:Zai:=(sq [o 3 (.lbox 3 [3] (t 0)),o 5 (.lbox 5 [5] (t 2)),mi 6 0] (.seq (sq [l 9 3 4 3,c1 10 64 9,m 7 10] (sq [m 11 7,bk 12 .neq 11 0] (.cond (t 12) (sq [m 13 7,m 6 13] .ret) .skip))) (.seq (sq [l 14 3 4 3,m 15 1,o 16 (.call 143 [(t 14),(t 15),(k 0),(k 99)]),m 8 16] (sq [m 17 8,bk 18 .neq 17 0] (.cond (t 18) (sq [m 19 8,m 6 19] .ret) .skip))) (sq [l 20 3 4 3,l 21 5 2 5,c2 22 175 20 21,m 6 22] .ret))))
def r139:List NRes:=[(.slot 6)]
theorem c139:IsN Tryz.prog 139 3 n139 r139:=isq [(3,3),(5,5)] Tryz.func139
end Go.Proofs
end
section
open Go Go.LL Go.Z
namespace Go.Proofs
def n75:Zai:=(sq [o 3 (.lbox 3 [3,16] (t 0)),o 5 (.lbox 5 [5,24,28] (t 2)),o 6 (.mov (.const s0))] (sq [o 7 (.mov (.const s0))] (.seq (sq [mi 8 0] (.block 0 (.loop (.seq (sq [m 10 8,m 11 1,le 12 11,b 13 .lss 10 12] (.cond (t 13) .skip (.exit 0))) (.seq (.block 1 (.seq (.drawn [(f 16 0 3,none),(ln 17 3 16,none),(m 18 1,none),(m 19 8,none),(ia 20 1 18 19,none),(ld 21 20,none),(b 22 .sub 17 21,none),(m 9 22,none)]) (.seq (sq [m 23 8,f 24 0 5,ln 25 5 24,b 26 .geq 23 25] (.cond (t 26) (.ops [m 27 9,f 28 1 5,ln 29 5 28,b 30 .add 27 29,m 9 30]) .skip)) (.ops [m 31 7,m 32 9,o 33 (.buildS 3 1 [z0] [(0,(1,(t 32)))]),o 34 (.raw (.call (.mk (.builtin .append) #[(t 31),(t 33)] #[34,34])) 34),m 7 34])))) (.ops [m 14 8,bk 15 .add 14 1,m 8 15])))))) (sq [m 35 7,m 6 35] .ret))))
def r75:List NRes:=[(.slot 6)]
theorem c75:IsN Tryz.prog 75 3 n75 r75:=isq [(3,3),(5,5),(16,3),(24,5),(28,5)] Tryz.func75
def n80:Zai:=(sq [o 3 (.lbox 3 [3] (t 0)),o 5 (.lbox 5 [5] (t 2)),m0 6,mi 7 0] (.seq (sq [l 9 3 4 3,m 10 1,l 11 5 2 5,c3 12 139 9 10 11,m 8 12] (sq [m 13 8,bk 14 .neq 13 0] (.cond (t 14) (sq [m 15 8,m0 6,m 7 15] .ret) .skip))) (.seq (.drawn [(l 16 3 4 3,none),(m 17 1,none),(c2 18 141 16 17,none),(m 19 18,none),(gt 19 20 (.lld 3 (some 4) 3),none),(gt 19 21 (.lld 3 (some 4) 3),none),(mt 19 22 1,none),(gt 19 23 (.lld 5 (some 2) 5),none),(gt 19 24 (.call 75 [(t 21),(t 22),(t 23)]),(some false)),(gt 19 25 (.call 142 [(t 20),(t 24)]),none),(pa 26 19 25,none),(m 6 26,none),(mi 7 0,none)]) .ret)))
def r80:List NRes:=[(.slot 6),(.slot 7)]
theorem c80:IsN Tryz.prog 80 3 n80 r80:=isq [(3,3),(5,5)] Tryz.func80
end Go.Proofs
end
section
open Go Go.LL Go.Z
namespace Go.Proofs
def n56:Zai:=(sq [o 1 (.lbox 1 [1,7,13,17] (t 0)),o 2 (.mov (.const s0))] (sq [o 3 (.mov (.const s0))] (.seq (sq [mi 4 1] (.block 0 (.loop (.seq (sq [m 6 4,f 7 2 1,ln 8 1 7,le 9 8,b 10 .lss 6 9] (.cond (t 10) .skip (.exit 0))) (.seq (.block 1 (sq [f 13 1 1,ln 14 1 13,o 15 (.raw (.unOp .neg 3 (t 14)) 3),m 5 15] (.block 2 (.loop (.seq (sq [m 16 5,f 17 1 1,ln 18 1 17,b 19 .leq 16 18] (.cond (t 19) .skip (.exit 2))) (.seq (.block 3 (sq [m 22 5,bk 23 .neq 22 0] (.cond (t 23) (.ops [m 24 3,m 25 4,m 26 5,o 27 (.build [z0,z0] [(0,(1,(t 25))),(1,(1,(t 26)))]),o 28 (.buildS 70 1 [z0,z0] [(0,(2,(t 27)))]),o 29 (.raw (.call (.mk (.builtin .append) #[(t 24),(t 28)] #[38,38])) 38),m 3 29]) .skip))) (.ops [m 20 5,bk 21 .add 20 1,m 5 21]))))))) (.ops [m 11 4,bk 12 .add 11 1,m 4 12])))))) (sq [m 30 3,m 2 30] .ret))))
def r56:List NRes:=[(.slot 2)]
theorem c56:IsN Tryz.prog 56 1 n56 r56:=isq [(1,1),(7,1),(13,1),(17,1)] Tryz.func56
def n81:Zai:=(sq [o 2 (.lbox 2 [2] (t 0)),o 4 (.lzero 4 [4] [z0,z0]),m0 5,mi 6 0] (.seq (sq [l 10 2 4 2,c1 11 64 10,m 7 11] (sq [m 12 7,bk 13 .neq 12 0] (.cond (t 13) (sq [o 14 (.build [z0,z0] []),m 15 7,ls 4 2 4 14,m0 5,m 6 15] .ret) .skip))) (.seq (sq [l 16 2 4 2,m 17 1,o 18 (.call 143 [(t 16),(t 17),(.const (.int .i64 (Int.negSucc 198))),(k 199)]),m 8 18] (sq [m 19 8,bk 20 .neq 19 0] (.cond (t 20) (sq [o 21 (.build [z0,z0] []),m 22 8,ls 4 2 4 21,m0 5,m 6 22] .ret) .skip))) (sq [l 23 2 4 2,m 24 1,c2 25 104 23 24,o 9 (.lzero 9 [9,26,28] [z0,z0]),ls 9 2 9 25] (.seq (sq [f 26 0 9,ln 27 9 26,f 28 1 9,ln 29 9 28,b 30 .gtr 27 29] (.cond (t 30) (sq [o 31 (.build [z0,z0] []),ls 4 2 4 31,m0 5,mi 6 0] .ret) .skip)) (sq [l 32 9 2 9,ls 4 2 4 32,m1 5,mi 6 0] .ret))))))
def r81:List NRes:=[(.var 4 4 (some 2)),(.slot 5),(.slot 6)]
theorem c81:IsN Tryz.prog 81 2 n81 r81:=isq [(2,2),(4,4),(9,9),(26,9),(28,9)] Tryz.func81
def n141:Zai:=(sq [o 2 (.lbox 2 [2,16,23] (t 0)),m0 4] (.seq (sq [mi 5 0] (.block 0 (.loop (.seq (sq [m 6 5,m 7 1,le 8 7,b 9 .lss 6 8] (.cond (t 9) .skip (.exit 0))) (.seq (.block 1 (.seq (.drawn [(m 12 1,none),(m 13 5,none),(ia 14 1 12 13,none),(ld 15 14,none),(f 16 2 2,none),(ln 17 2 16,none),(m 18 5,none),(ia 19 5 17 18,none),(o 20 (.fadr 0 (t 19)),none),(o 21 (.fadr 0 (t 20)),none),(ld 22 21,none),(f 23 2 2,none),(ln 24 2 23,none),(m 25 5,none),(ia 26 5 24 25,none),(o 27 (.fadr 0 (t 26)),none),(o 28 (.fadr 1 (t 27)),none),(ld 29 28,none),(c3 30 53 15 22 29,none),(o 31 (.not (t 30)),none)]) (.cond (t 31) (sq [m0 4] .ret) .skip))) (.ops [m 10 5,bk 11 .add 10 1,m 5 11])))))) (sq [m1 4] .ret)))
def r141:List NRes:=[(.slot 4)]
theorem c141:IsN Tryz.prog 141 2 n141 r141:=isq [(2,2),(16,2),(23,2)] Tryz.func141
def n175:Zai:=(sq [o 2 (.lbox 2 [2] (t 0)),o 3 (.lbox 3 [3] (t 1)),mi 4 0] (sq [o 7 (.build [z0,z0] []),o 8 (.buildS 70 1 [z0,z0] [(0,(2,(t 7)))]),l 9 2 4 2,c1 10 56 9,o 11 (.raw (.call (.mk (.builtin .append) #[(t 8),(t 10)] #[38,38])) 38),m 5 11] (.seq (sq [mi 6 0] (.block 0 (.loop (.seq (sq [m 12 6,m 13 5,le 14 13,b 15 .lss 12 14] (.cond (t 15) .skip (.exit 0))) (.seq (.block 1 (.seq (.drawn [(m 18 5,none),(m 19 6,none),(ia 20 2 18 19,none),(lm 21 2 20,none),(l 22 3 2 3,none),(o 23 (.pur (.binOp .eql 70 (t 21) (t 22) 70) 4),none)]) (.cond (t 23) (sq [mi 4 0] .ret) .skip))) (.ops [m 16 6,bk 17 .add 16 1,m 6 17])))))) (sq [mi 4 6] .ret))))
def r175:List NRes:=[(.slot 4)]
theorem c175:IsN Tryz.prog 175 2 n175 r175:=isq [(2,2),(3,3)] Tryz.func175
end Go.Proofs
end
section
open Go Go.LL
namespace Go.Proofs
theorem a119:Zb7 Tryz.prog 119=some (some 4):=by kernel_rfl
section
variable  {P:Prg}[Tz P]{H:Hp}
set_option maxHeartbeats 400000
end
end Go.Proofs
end
section
open Go Go.LL
namespace Go.Proofs
theorem s121:spf Tryz.prog 121=some ([("marks",119,0),("slip",70,4)],false):=by kernel_rfl
theorem ui4:Tryz.prog.underlying 4=some .bool:=by kernel_rfl
theorem a70:Zb7 Tryz.prog 70=some (some 2):=by kernel_rfl
section
variable  {P:Prg}[Tz P]{H:Hp}{g:Bool}{d:Nat}
theorem partA {t n:Nat}{cs:Array Value}{off:Nat}(h:Zb7 Tryz.prog t=some (some n))(Q:Value->Bool->Hp->Prop):wpL P.toPQ (part t cs off) Q g H↔Q (.agg (cs.extract off (off+n))) g H:=by
 obtain⟨i,h1,h2,h3⟩:=ZcM (agf (P:=P) h)
 simp only[part,Zaa,h3,if_true,Zap h1,h2,Zac]
end
end Go.Proofs
end
section
open Go Go.LL
namespace Go.Proofs
theorem g119:eqGB Tryz.prog 119=false:=by kernel_rfl
theorem g121:eqGB Tryz.prog 121=false:=by kernel_rfl
section
variable  {P:Prg}[Tz P]{H:Hp}{d:Option Nat}{next:NSt->Hp->Prop}{σ:NSt}{x y:Operand}{ty t2:TypeId}{v:Value}
theorem eq4_w' {a b:Bool}(d:Nat)(Q:Bool->Bool->Hp->Prop)(g:Bool)(H:Hp)(hq:Q (a == b) g H):wpL P.toPQ (Op.equalIn (d+1) 4 (vb a) (vb b)) Q g H:=by
 simp only[Op.equalIn,Zaa,Zad (und (P:=P) ui4),Zac]
 exact hq
theorem eq4_w {a b:Bool}(Q:Bool->Bool->Hp->Prop)(g:Bool)(H:Hp)(hq:Q (a == b) g H):wpL P.toPQ (Op.equalIn (9999+1) 4 (vb a) (vb b)) Q g H:=eq4_w' 9999 Q g H hq
theorem om_neb {a b:Bool}(e1:σ.get x=some (vb a))(e2:σ.get y=some (vb b))(h:next (σ.set d (vb (a != b))) H):(NOp.pur (.binOp .neq 4 x y t2) ty).m P d next σ H:=by
 refine Zcb (by simp[Op.operands,e1,e2]) ?_ h
 have:execOp (fun x=>(σ.get x).getD undef) (bare (.binOp .neq 4 x y t2) ty)=(do let v <-(do eqGuard .neq 4 x y (vb a) (vb b);binOp .neq 4 (vb a) (vb b));pure (.value v)):=by simp[execOp,bare,e1,e2]
 rw[this]
 refine Zgz fun Q g H hq=>?_
 simp only[eqGuard,Zaa,Zac]
 exact Zaa.2 (eq4_w _ _ _ hq)
end
end Go.Proofs
end
section
open Go Go.LL
namespace Go.Proofs
theorem WaH (l:List Slip):((encs l).all Value.isOne)=true:=Zh3 (fun _=>rfl) l
section
variable  {P:Prg}[Tz P][Loud P]{H:Hp}
set_option maxHeartbeats 1000000
end
end Go.Proofs
end
section
open Go Go.LL
namespace Go.Proofs
theorem eq121 {P:Prg}[Tz P]{H:Hp}{g:Bool}{d:Nat}{a b:Boat}(Q:Bool->Bool->Hp->Prop)(hq:Q (n4Eq a.m b.m && decide (a.bf=b.bf∧a.by_=b.by_)) g H):wpL P.toPQ (Op.equalIn (d+1+1+1) 121 (ZaJ a) (ZaJ b)) Q g H:=by
 have p1:∀ (x:Boat) (Q:Value->Bool->Hp->Prop) g H,wpL P.toPQ (part 119 #[vi x.m.a,vi x.m.b,vi x.m.c,vi x.m.d,vi x.bf,vi x.by_] 0) Q g H↔Q (numV x.m) g H:=fun x Q g H=>partA a119 Q
 have p2:∀ (x:Boat) (Q:Value->Bool->Hp->Prop) g H,wpL P.toPQ (part 70 #[vi x.m.a,vi x.m.b,vi x.m.c,vi x.m.d,vi x.bf,vi x.by_] 4) Q g H↔Q (.agg #[vi x.bf,vi x.by_]) g H:=fun x Q g H=>partA a70 Q
 obtain⟨f1,f2,hu,⟨n1,t1,o1⟩,⟨n2,t2,o2⟩,hs⟩:=spf2 (p:=P.toProgram) (by rw[Tz.prog (P:=P)];exact s121)
 rw[Op.equalIn]
 simp only[ZaJ,Zaa,Zad hu,ZaU,hs,Bool.false_eq_true,if_false,Zac]
 simp only[n1,n2,t1,t2,o1,o2,Zaa,List.forIn_toArray,List.forIn_cons,List.forIn_nil,p1,p2]
 have hnn:∀ s:String,(s == "marks")=(s == "marks"):=fun _=>rfl
 by_cases h1:n4Eq a.m b.m=true
 ·rw[h1,Bool.true_and]at hq
  simp[Zaa,Zac,p1,p2]
  refine eq119 _ ?_
  rw[h1]
  simp[Zaa,Zac,p1,p2]
  refine eqP (.inl s70) _ ?_
  by_cases h2:a.bf=b.bf∧a.by_=b.by_
  ·simp only[h2,and_self,decide_true]at hq
   simp[h2,Zaa,Zac];exact hq
  ·simp only[h2,decide_false]at hq
   simp[h2,Zaa,Zac];exact hq
 ·have h1:n4Eq a.m b.m=false:=by simpa using h1
  rw[h1,Bool.false_and]at hq
  simp[Zaa,Zac,p1,p2]
  refine eq119 _ ?_
  rw[h1]
  simp[Zaa,Zac]
  exact hq
def Wab (b:Bk)(x:Boat)(j:Nat):N4:=.of fun i=>if i<j then min (max (x.m.get i) (ptAt b i).ml) (ptAt b i).mh else x.m.get i
def Wag (b:Bk)(x:Boat):Bool:=n4Eq (Wab b x b.pts.length) x.m && ZgQ b x
theorem clamp0 (b:Bk)(x:Boat):Wab b x 0=x.m:=N4.ext' fun j hj=>by rw[Wab,N4.of_get _ hj,if_neg (by omega)]
theorem WaC {b:Bk}{x:Boat}{j:Nat}(hj:j<4):(Wab b x j).put j (min (max (x.m.get j) (ptAt b j).ml) (ptAt b j).mh)=Wab b x (j+1):=by
 refine N4.ext' fun i hi=>?_
 rw[N4.put_get _ _ hi,Wab,Wab,N4.of_get _ hi,N4.of_get _ hi]
 by_cases e:i=j
 ·subst e;rw[if_pos rfl,if_pos (by omega)]
 ·rw[if_neg e]
  by_cases e2:i<j
  ·rw[if_pos e2,if_pos (by omega)]
  ·rw[if_neg e2,if_neg (by omega)]
theorem spliceB (x:Boat){j:Nat}(v:Int)(hj:j<4):ZaN x.cells (0+j * 1) [vi v]=(⟨x.m.put j v,x.bf,x.by_⟩:Boat).cells:=by
 match j,hj with
 | 0,_=>rfl
 | 1,_=>rfl
 | 2,_=>rfl
 | 3,_=>rfl
def Wac (b:Bk)(l:List Int)(k:Slip):Value:=if ZaA b l k=0 then .tuple #[vb (Wag b (Zgk l k)),vi 0] else .tuple #[vb false,vi (ZaA b l k)]
section
variable  {P:Prg}[Tz P][Loud P]{H:Hp}
set_option maxHeartbeats 1000000
theorem WaS {bv lv:Value}{b:Bk}{l:List Int}{k:Slip}(hb:BkAt H bv b)(hlv:SlAt H lv l)(hg:Za8 H)(hl:b.pts.length<=1000000)(hl2:b.cks.length<=1000000)(hl3:l.length<=1000000) :
  LL.Zag P 79 #[bv,lv,ZbG k] H fun v H'=>Inc H H'∧v=Wac b l k:=by
 have hs:∀ g,P.still g=false:=Loud.loud
 have hb0:=hb
 obtain⟨pv,cv,rfl,hp,hc⟩:=hb
 refine IsN.m (isn c79) (args:=[.agg #[vi b.op,vi b.sl,pv,cv],lv,ZbG k]) rfl ?_
 unfold n79
 refine wkT ?_
 refine Zab (vs:=[.agg #[vi b.op,vi b.sl,pv,cv],lv,ZbG k]) rfl (ZmD hb0 hlv hg hl hl2 hl3) ?_
 rintro v H1 ⟨hi1,rfl⟩
 by_cases h:ZaA b l k=0
 ·obtain⟨val,e1,i99,hby⟩:=handed0 h
  have hn:=val.n
  have hx:In99 (Zgk l k).m∧-3<=(Zgk l k).by_∧(Zgk l k).by_<=3:=⟨i99,hby⟩
  rw[ZdS,if_pos h,Wac,if_pos h]
  show NOp.m _ _ _ _ _ _
  have ep:(⟨n4of l,k.bf,k.by_⟩:Boat)=Zgk l k:=rfl
  rw[ep]
  generalize Zgk l k=x at *
  obtain⟨Ac,cc,rfl,hc'⟩:=hc
  have hpw:=hp.inc hi1
  obtain⟨Ap,cp,rfl,hp'⟩:=hp
  refine wkT ?_
  refine ZaX b.pts.length (fun j H'=>H1=H') (fun j=>[(3,vi 0),(8,vi 0),(9,vi 0),(11,vi 0),(6,vb false),(7,vi 0),(27,.slice Ap b.pts.length cp),(28,vi b.pts.length),(29,vi j)])
   (fun j=>[(3,[vi b.op,vi b.sl,.slice Ap b.pts.length cp,.slice Ac b.cks.length cc]),(8,[vi b.op,vi b.sl,.slice Ap b.pts.length cp,.slice Ac b.cks.length cc]),(9,x.cells),(11,(⟨Wab b x j,x.bf,x.by_⟩:Boat).cells)]) rfl ⟨rfl,rfl,rfl,rfl,rfl,rfl,rfl,rfl,rfl,trivial⟩ ⟨rfl,rfl,rfl,?_,trivial⟩ ?_
  ·rw[clamp0];rfl
  rintro j _ hj rfl
  refine wkT ?_
  refine wiT (fun h1=>?_) (fun h1=>?_)
  ·have hj4:j<4:=by omega
   have hjl:j<b.pts.length:=by omega
   have ept:ptAt b j=b.pts[j]:=Zbd hjl _
   refine wkT ?_
   refine ZaE hpw rfl rfl rfl (i:=j) hjl fun a ha=>?_
   refine wkT ?_
   refine Zao (hs _) rfl ha rfl ?_
   rw[<-ept]at *
   generalize hq:ptAt b j=q at *
   refine wkT ?_
   refine ZcB rfl rfl hj4 ?_
   refine wkT ?_
   refine Zdg (hs _) rfl rfl (boat_get x hj4) ?_
   refine wkT ?_
   refine om_max rfl rfl ?_
   refine wkT ?_
   refine om_min rfl rfl ?_
   refine wkT ?_
   refine ZcB rfl rfl hj4 ?_
   refine wkT ?_
   refine Zkb (hs _) rfl rfl rfl rfl (by show 0+j * 1+1<=6;omega) rfl ?_
   refine wkT ?_
   refine⟨⟨j+1,by omega⟩,Nat.sub_lt_sub_left (by omega) (Nat.lt_succ_self j),rfl,⟨rfl,rfl,rfl,rfl,rfl,rfl,rfl,rfl,rfl,trivial⟩,⟨rfl,rfl,rfl,?_,trivial⟩,rfl⟩
   show some (ZaN (⟨Wab b x j,x.bf,x.by_⟩:Boat).cells (0+j * 1) [vi (min (max (x.m.get j) q.ml) q.mh)])=some _
   rw[spliceB _ _ hj4,<-WaC hj4,hq]
  ·have:j=b.pts.length:=by omega
   subst this
   refine wkT ?_
   refine om_eqS (b:=n4Eq (Wab b x b.pts.length) x.m) g121 (fun Q g H hq=>eq121 (a:=⟨Wab b x b.pts.length,x.bf,x.by_⟩) (b:=x) Q (by simpa using hq)) rfl rfl ?_
   cases hq:n4Eq (Wab b x b.pts.length) x.m
   ·refine wkT ?_
    refine⟨hi1,?_⟩
    rw[Wag,hq];rfl
   ·refine wkT ?_
    refine om_eqS (b:=true) g119 (fun Q g H hq'=>eq119 (a:=Wab b x b.pts.length) (b:=x.m) Q (by rw[hq];exact hq')) rfl rfl ?_
    refine wkT ?_
    refine Zab (vs:=[.agg #[vi b.op,vi b.sl,.slice Ap b.pts.length cp,.slice Ac b.cks.length cc],ZaJ x]) rfl (right_ok (hb0.inc hi1) val.good.bk (Zdr hx) val.good.cks (by have:=val.ckn;omega) (hs _)) ?_
    rintro v H2 ⟨hs2,rfl⟩
    refine wkT ?_
    refine⟨hi1.trans hs2.inc,?_⟩
    rw[Wag,hq];rfl
 ·rw[ZdS,if_neg h,Wac,if_neg h]
  refine wkT ?_
  refine wiT (fun h1=>?_) (fun h1=>?_)
  ·refine wkT ?_
   exact⟨hi1,rfl⟩
  ·exact absurd h1 h
end
end Go.Proofs
end
section
open Go Go.LL Go.Z
namespace Go.Proofs
def n15:Zai:=(sq [o 4 (.lbox 4 [4] (t 0)),o 6 (.lbox 6 [6] (t 2)),m0 8] (.seq (sq [l 21 4 4 4,c1 22 17 21,m 23 22,mf 23 24 1,gf 23 25 (.len (t 24)),gf 23 26 (.bin .gtr (t 25) (k 20)),po 27 23 26,m 28 27,mf 28 29 3,gf 28 30 (.len (t 29)),gf 28 31 (.bin .gtr (t 30) (k 20)),po 32 28 31] (.cond (t 32) (sq [c0 33 18,m 8 33] .ret) .skip)) (sq [l 35 4 4 4,m 36 1,l 37 6 2 6,c3 38 74 35 36 37,m 34 38,x 39 34 0,x 40 34 1,m 9 39,m 10 40] (sq [l 42 4 4 4,m 43 1,l 44 6 2 6,c3 45 77 42 43 44,m 41 45,x 46 41 0,x 47 41 1,m 11 46,m 12 47] (.seq (.seq (.drawn [(m 48 9,none),(m 49 11,none),(c2 50 25 48 49,none),(o 51 (.not (t 50)),none),(m 52 51,none),(mf 52 53 10,none),(mf 52 54 12,none),(gf 52 55 (.bin .neq (t 53) (t 54)),none),(po 56 52 55,none),(m 57 56,none),(gf 57 58 (.lld 4 (some 4) 4),none),(gf 57 60 (.lld 4 (some 4) 4),none),(gf 57 59 (.call 78 [(t 58)]),(some false)),(gf 57 61 (.call 64 [(t 60)]),none),(gf 57 62 (.bin .neq (t 59) (t 61)),none),(po 63 57 62,none)]) (.cond (t 63) (sq [m0 8] .ret) .skip)) (sq [l 65 4 4 4,m 66 1,l 67 6 2 6,c3 68 79 65 66 67,m 64 68,x 69 64 0,x 70 64 1,m 13 69,m 10 70] (sq [l 72 4 4 4,m 73 1,l 74 6 2 6,c3 75 80 72 73 74,m 71 75,x 76 71 0,x 77 71 1,m 14 76,m 12 77] (.seq (sq [m 78 13,m 79 14,o 80 (.pur (.binOp .neq 4 (t 78) (t 79) 4) 4),m 81 80,mf 81 82 10,mf 81 83 12,gf 81 84 (.bin .neq (t 82) (t 83)),po 85 81 84] (.cond (t 85) (sq [m0 8] .ret) .skip)) (sq [l 87 4 4 4,m 88 3,c2 89 59 87 88,m 86 89,x 90 86 0,x 91 86 1,x 92 86 2,o 15 (.lzero 15 [15] [z0,z0]),ls 15 2 15 90,m 13 91,m 10 92] (sq [l 94 4 4 4,m 95 3,c2 96 81 94 95,m 93 96,x 97 93 0,x 98 93 1,x 99 93 2,o 16 (.lzero 16 [16] [z0,z0]),ls 16 2 16 97,m 14 98,m 12 99] (.seq (sq [l 100 15 2 15,l 101 16 2 16,o 102 (.pur (.binOp .neq 49 (t 100) (t 101) 49) 4),m 103 102,mf 103 104 13,mf 103 105 14,gf 103 106 (.pur (.binOp .neq 4 (t 104) (t 105) 4) 4),po 107 103 106,m 108 107,mf 108 109 10,mf 108 110 12,gf 108 111 (.bin .neq (t 109) (t 110)),po 112 108 111] (.cond (t 112) (sq [m0 8] .ret) .skip)) (sq [l 114 4 4 4,c1 115 60 114,m 113 115,x 116 113 0,x 117 113 1,x 118 113 2,m 17 116,m 18 117,m 10 118] (sq [l 120 4 4 4,c1 121 82 120,m 119 121,x 122 119 0,x 123 119 1,x 124 119 2,m 19 122,m 20 123,m 12 124] (sq [m 125 17,m 126 19,b 127 .eql 125 126,m 128 127,mt 128 129 18,mt 128 130 20,gt 128 131 (.bin .eql (t 129) (t 130)),pa 132 128 131,m 133 132,mt 133 134 10,mt 133 135 12,gt 133 136 (.bin .eql (t 134) (t 135)),pa 137 133 136,m 138 137,gt 138 139 (.call 18 []),pa 140 138 139,m 8 140] .ret))))))))))))))
def r15:List NRes:=[(.slot 8)]
theorem c15:IsN Tryz.prog 15 4 n15 r15:=isq [(4,4),(6,6),(15,15),(16,16)] Tryz.func15
end Go.Proofs
end
section
open Go Go.LL
namespace Go.Proofs
theorem t38e:Tryz.prog.underlying 38=some (.slice 70):=by kernel_rfl
def Waa (b:Bk)(l:List Int)(k:Slip):List Int:=(List.range l.length).map fun i=>b.op-l.getD i 0+if k.bf<=i then k.by_ else 0
def Wak (b:Bk)(g:List Int):Bool:=b.cks.all fun c=>decide (c.gl<=g.getD c.p.toNat 0∧g.getD c.p.toNat 0<=c.gh)
section
variable  {P:Prg}[Tz P][Loud P]{H:Hp}
set_option maxHeartbeats 2000000
set_option maxRecDepth 20000
theorem WaK {H:Hp}{r:Nat}{k:Slip}:SlAt (H.ins r (.cells [vi k.bf,vi k.by_].toArray 70)) (.slice (some ⟨r,0,none⟩) 1 1) [k]:=Za4 (l:=[k])
theorem WaD {bv:Value}{b:Bk}(hb:BkAt H bv b)(h0:0<=b.sl)(h1:b.sl<=100)(h2:b.pts.length<=100)(h2':1<=b.pts.length) :
  LL.Zag P 56 #[bv] H fun v H'=>Inc H H'∧∃ bb,Own H H' 70 v ((ZaC b).drop 1) bb:=by
 have hs:∀ g,P.still g=false:=Loud.loud
 obtain⟨pv,cv,rfl,hp,hc⟩:=hb
 obtain⟨Ap,cp,rfl,hp'⟩:=id hp
 obtain⟨Ac,cc,rfl,hc'⟩:=id hc
 obtain⟨sl,hsl⟩:∃ sl:Nat,b.sl=sl:=⟨b.sl.toNat,by omega⟩
 have hdr:(ZaC b).drop 1=outerR b.pts.length sl (b.pts.length-1):=by rw[ZaC,hsl];rfl
 rw[hdr]
 have hol:=Zis b.pts.length sl
 refine IsN.m (isn c56) (args:=[.agg #[vi b.op,vi b.sl,.slice Ap b.pts.length cp,.slice Ac b.cks.length cc]]) rfl ?_
 unfold n56
 refine wkT ?_
 refine ZaP (α:=Value×List Slip×Option Nat) (b.pts.length-1) (fun j s H'=>Inc H H'∧Own H H' 70 s.1 s.2.1 s.2.2∧s.2.1++outerR b.pts.length sl (b.pts.length-1-j)=outerR b.pts.length sl (b.pts.length-1)∧s.2.1.length<=j * 300)
  (fun j s=>[(1,vi 0),(3,s.1),(4,vi (j+1:Nat))]) (fun _ _=>[(1,[vi b.op,vi b.sl,.slice Ap b.pts.length cp,.slice Ac b.cks.length cc])]) (.slice none 0 0,[],none) ⟨.refl H,.nil _ _ _,rfl,by simp⟩ ⟨rfl,rfl,rfl,trivial⟩ ⟨rfl,trivial⟩ ?_
 rintro j ⟨v3,l3,b3⟩ H1 hj ⟨hi1,o3,e3,len3⟩
 simp only at o3 e3 len3
 refine wkT ?_
 refine wiT (fun h3=>?_) (fun h3=>?_)
 ·have hj':j<b.pts.length-1:=by omega
  refine wkT ?_
  refine om_neg rfl ⟨by omega,by omega⟩ ?_
  refine wkT ?_
  have e1:b.pts.length-1-j=(b.pts.length-1-(j+1))+1:=by omega
  rw[e1,outerR]at e3
  have e2:((b.pts.length:Int)-((b.pts.length-1-(j+1))+1:Nat))=(j+1:Nat):=by omega
  rw[e2]at e3
  refine ZaP (α:=Value×List Slip×Option Nat) (2 * sl+1) (fun k s H'=>Inc H H'∧Own H H' 70 s.1 s.2.1 s.2.2∧s.2.1++(innerR (j+1:Nat) sl (2 * sl+1-k)++outerR b.pts.length sl (b.pts.length-1-(j+1)))=outerR b.pts.length sl (b.pts.length-1)∧s.2.1.length<=j * 300+k)
   (fun k s=>[(1,vi 0),(3,s.1),(4,vi (j+1:Nat)),(5,vi (-b.sl+k))]) (fun _ _=>[(1,[vi b.op,vi b.sl,.slice Ap b.pts.length cp,.slice Ac b.cks.length cc])]) (v3,l3,b3) ⟨hi1,o3,e3,by show l3.length<=j * 300+0;omega⟩ ⟨rfl,rfl,rfl,by simp[NSt.set],trivial⟩ ⟨rfl,trivial⟩ ?_
  rintro k ⟨v4,l4,b4⟩ H2 hk ⟨hi2,o4,e4,len4⟩
  simp only at o4 e4 len4
  refine wkT ?_
  refine wiT (fun h4=>?_) (fun h4=>?_)
  ·have hk':k<2 * sl+1:=by omega
   have e5:2 * sl+1-k=(2 * sl+1-(k+1))+1:=by omega
   have e6:(sl:Int)-(2 * sl+1-(k+1):Nat)=-b.sl+k:=by omega
   rw[e5,innerR,e6]at e4
   refine wkT ?_
   refine wiT (fun h5=>?_) (fun h5=>?_)
   ·rw[if_neg h5,List.cons_append]at e4
    refine wkT ?_
    refine Zat (cs:=[vi (j+1:Nat),vi (-b.sl+k)]) (hs _) rfl fun r1 hr1=>?_
    refine wkT ?_
    have hne1:=WaK (H:=H2) (r:=r1) (k:=⟨(j+1:Nat),-b.sl+k⟩)
    generalize hkk:(⟨(j+1:Nat),-b.sl+k⟩:Slip)=kk at *
    refine ZbW (l':=[kk]) (und t38e) (und t38e) (tif t70) rfl (by decide) (hi2.trans (Zaj hr1)) (o4.ins hr1) (by subst hkk;exact hne1) rfl (by simp;omega) (by omega) rfl rfl (hs _) fun v5 H3 b5 k1 k2 k3=>?_
    refine wkT ?_
    refine⟨(⟨k+1,by omega⟩,(v5,l4++[kk],b5)),Nat.sub_lt_sub_left (by omega) (Nat.lt_succ_self k),⟨k1,k2,by rw[List.append_assoc];exact e4,by show (l4++[kk]).length<=j * 300+(k+1);rw[List.length_append,List.length_singleton];omega⟩,⟨rfl,rfl,rfl,?_,trivial⟩,⟨rfl,trivial⟩,rfl⟩
    show some (vi (-b.sl+k+1))=some (vi (-b.sl+(k+1:Nat)))
    congr 2;omega
   ·rw[if_pos h5]at e4
    refine wkT ?_
    refine⟨(⟨k+1,by omega⟩,(v4,l4,b4)),Nat.sub_lt_sub_left (by omega) (Nat.lt_succ_self k),⟨hi2,o4,e4,by show l4.length<=j * 300+(k+1);omega⟩,⟨rfl,rfl,rfl,?_,trivial⟩,⟨rfl,trivial⟩,rfl⟩
    show some (vi (-b.sl+k+1))=some (vi (-b.sl+(k+1:Nat)))
    congr 2;omega
  ·have hk2:2 * sl+1-k=0:=by omega
   rw[hk2,innerR,List.nil_append]at e4
   refine wkT ?_
   refine⟨(⟨j+1,by omega⟩,(v4,l4,b4)),Nat.sub_lt_sub_left (by omega) (Nat.lt_succ_self j),⟨hi2,o4,e4,by show l4.length<=(j+1) * 300;omega⟩,⟨rfl,rfl,?_,trivial⟩,⟨rfl,trivial⟩,rfl⟩
   show some (vi ((j+1:Nat)+1))=some (vi (j+1+1:Nat))
   congr 2
 ·have:j=b.pts.length-1:=by omega
  subst this
  rw[Nat.sub_self,outerR,List.append_nil]at e3
  subst e3
  refine wkT ?_
  exact⟨hi1,b3,o3⟩
end
end Go.Proofs
end
section
open Go Go.LL
namespace Go.Proofs
theorem ints_1 {H:Hp}{r:Nat}{E:TypeId}{x:Int}:SlAt (H.ins r (.cells [vi x].toArray E)) (.slice (some ⟨r,0,none⟩) 1 1) [x]:=Za4 (l:=[x])
section
variable  {P:Prg}[Tz P][Loud P]{H:Hp}
set_option maxHeartbeats 2000000
set_option maxRecDepth 20000
theorem Was {bv lv:Value}{b:Bk}{l:List Int}{k:Slip}(hb:BkAt H bv b)(hlv:SlAt H lv l)(hl:l.length<=1000000)(ho:Sm b.op)(hsm:∀ x∈l,Sm x)(hk:Sm k.by_) :
  LL.Zag P 75 #[bv,lv,.agg #[vi k.bf,vi k.by_]] H fun v H'=>Inc H H'∧∃ bb,Own H H' 3 v (Waa b l k) bb:=by
 have hs:∀ g,P.still g=false:=Loud.loud
 obtain⟨pv,cv,rfl,hp,hc⟩:=hb
 obtain⟨o1,o2⟩:=ho
 obtain⟨k1,k2⟩:=hk
 refine IsN.m (isn c75) (args:=[.agg #[vi b.op,vi b.sl,pv,cv],lv,.agg #[vi k.bf,vi k.by_]]) rfl ?_
 unfold n75
 refine wkT ?_
 refine ZaP (α:=Value×Option Nat) l.length (fun j s H'=>Inc H H'∧Own H H' 3 s.1 ((Waa b l k).take j) s.2) (fun j s=>[(1,lv),(3,vi 0),(5,vi 0),(7,s.1),(8,vi j)]) (fun _ _=>[(3,[vi b.op,vi b.sl,pv,cv]),(5,[vi k.bf,vi k.by_])]) (.slice none 0 0,none) ⟨.refl H,.nil _ _ _⟩ ⟨rfl,rfl,rfl,rfl,rfl,trivial⟩ ⟨rfl,rfl,trivial⟩ ?_
 rintro j ⟨v7,b7⟩ H1 hj ⟨hi1,o7⟩
 simp only at o7
 have hlen:(Waa b l k).length=l.length:=by simp[Waa]
 refine wkT ?_
 refine Zav (hlv.inc hi1) rfl ?_
 refine wkT ?_
 refine wiT (fun h1=>?_) (fun h1=>?_)
 ·have hj':j<l.length:=by omega
  obtain⟨m1,m2⟩:=hsm l[j] (List.getElem_mem hj')
  have htk:(Waa b l k).take (j+1)=(Waa b l k).take j++[b.op-l[j]+if k.bf<=j then k.by_ else 0]:=by
   rw[List.take_succ_eq_append_getElem (by omega)]
   simp[Waa,List.getD_eq_getElem?_getD,hj']
  have htl:((Waa b l k).take j).length<=j:=by rw[List.length_take];omega
  refine wkT ?_
  refine ZaE (hlv.inc hi1) rfl rfl rfl (i:=j) hj' fun a ha=>?_
  refine wkT ?_
  refine Zaf (hs _) rfl ha ?_
  refine wkT ?_
  refine wiT (fun h2=>?_) (fun h2=>?_)
  ·rw[if_pos h2]at htk
   refine wkT ?_
   refine Zat (cs:=[vi (b.op-l[j]+k.by_)]) (hs _) rfl fun r1 hr1=>?_
   refine wkT ?_
   refine ZbW (l':=[b.op-l[j]+k.by_]) (und u34) (und u34) (tif t3) rfl (by decide) (hi1.trans (Zaj hr1)) (o7.ins hr1) ints_1 rfl (by simp;omega) (by omega) rfl rfl (hs _) fun v8 H3 b8 g1 g2 g3=>?_
   rw[<-htk]at g2
   refine wkT ?_
   exact⟨(⟨j+1,by omega⟩,(v8,b8)),Nat.sub_lt_sub_left (by omega) (Nat.lt_succ_self j),⟨g1,g2⟩,⟨rfl,rfl,rfl,rfl,rfl,trivial⟩,⟨rfl,rfl,trivial⟩,rfl⟩
  ·rw[if_neg h2,Int.add_zero]at htk
   refine wkT ?_
   refine Zat (cs:=[vi (b.op-l[j])]) (hs _) rfl fun r1 hr1=>?_
   refine wkT ?_
   refine ZbW (l':=[b.op-l[j]]) (und u34) (und u34) (tif t3) rfl (by decide) (hi1.trans (Zaj hr1)) (o7.ins hr1) ints_1 rfl (by simp;omega) (by omega) rfl rfl (hs _) fun v8 H3 b8 g1 g2 g3=>?_
   rw[<-htk]at g2
   refine wkT ?_
   exact⟨(⟨j+1,by omega⟩,(v8,b8)),Nat.sub_lt_sub_left (by omega) (Nat.lt_succ_self j),⟨g1,g2⟩,⟨rfl,rfl,rfl,rfl,rfl,trivial⟩,⟨rfl,rfl,trivial⟩,rfl⟩
 ·have:j=l.length:=by omega
  subst this
  rw[List.take_of_length_le (by omega)]at o7
  refine wkT ?_
  exact⟨hi1,b7,o7⟩
theorem WaM {bv gv:Value}{b:Bk}{g:List Int}(hb:BkAt H bv b)(hgv:SlAt H gv g)(hl2:b.cks.length<=1000000)(hck:∀ c∈b.cks,0<=c.p∧c.p<g.length) :
  LL.Zag P 142 #[bv,gv] H fun v H'=>H=H'∧v=vb (Wak b g):=by
 have hs:∀ g,P.still g=false:=Loud.loud
 obtain⟨pv,cv,rfl,hp,hc⟩:=hb
 refine IsN.m (isn c142) (args:=[.agg #[vi b.op,vi b.sl,pv,cv],gv]) rfl ?_
 unfold n142
 refine wkT ?_
 refine ZaX b.cks.length (fun j H'=>H=H'∧((b.cks.take j).all fun c=>decide (c.gl<=g.getD c.p.toNat 0∧g.getD c.p.toNat 0<=c.gh))=true) (fun j=>[(1,gv),(2,vi 0),(5,vi j)]) (fun _=>[(2,[vi b.op,vi b.sl,pv,cv])]) ⟨rfl,rfl⟩ ⟨rfl,rfl,rfl,trivial⟩ ⟨rfl,trivial⟩ ?_
 rintro j _ hj ⟨rfl,hall⟩
 refine wkT ?_
 refine Zav hc rfl ?_
 refine wkT ?_
 refine wiT (fun h1=>?_) (fun h1=>?_)
 ·have hj':j<b.cks.length:=by omega
  obtain⟨c1,c2⟩:=hck b.cks[j] (List.getElem_mem hj')
  have hat:=ZkE (f:=fun c:SCk=>decide (c.gl<=g.getD c.p.toNat 0∧g.getD c.p.toNat 0<=c.gh)) hj'
  have hno:=all_no (f:=fun c:SCk=>decide (c.gl<=g.getD c.p.toNat 0∧g.getD c.p.toNat 0<=c.gh)) hj'
  obtain⟨p,hp2⟩:∃ p:Nat,b.cks[j].p=p:=⟨b.cks[j].p.toNat,by omega⟩
  have hpl:p<g.length:=by omega
  refine wkT ?_
  refine ZaE hc rfl rfl rfl (i:=j) hj' fun a ha=>?_
  refine wkT ?_
  refine Zao (hs _) rfl ha rfl ?_
  refine wkT ?_
  refine ZaE hgv rfl (by rw[<-hp2];rfl) rfl (i:=p) hpl fun q hq=>?_
  refine wkT ?_
  refine Zaf (hs _) rfl hq ?_
  refine wkT ?_
  refine Zab (vs:=[vi g[p],vi b.cks[j].gl,vi b.cks[j].gh]) rfl (Zm6 _ _ _) ?_
  rintro v _ ⟨rfl,rfl⟩
  have hgd:g.getD b.cks[j].p.toNat 0=g[p]:=by rw[hp2,Int.toNat_natCast];exact Zbd hpl _
  simp only[hgd]at hat hno
  refine wkT ?_
  refine wiT (fun h2=>?_) (fun h2=>?_)
  ·refine wkT ?_
   exact⟨rfl,by rw[Wak,hno (decide_eq_false h2)];rfl⟩
  ·refine wkT ?_
   exact⟨⟨j+1,by omega⟩,Nat.sub_lt_sub_left (by omega) (Nat.lt_succ_self j),⟨rfl,by rw[hat,hall,decide_eq_true (by omega)];rfl⟩,⟨rfl,rfl,rfl,trivial⟩,⟨rfl,trivial⟩,rfl⟩
 ·have:j=b.cks.length:=by omega
  subst this
  rw[List.take_length]at hall
  refine wkT ?_
  exact⟨rfl,by rw[Wak,hall];rfl⟩
end
end Go.Proofs
end
section
open Go Go.LL
namespace Go.Proofs
theorem Wae {l:List Int}{j:Nat}(hj:j<4):(n4of l).get j=l.getD j 0:=N4.of_get _ hj
theorem WaQ {b:Bk}(v:Zeo b){l:List Int}(hl:l.length=b.pts.length)(k:Slip):Waa b l k=gapLs b ⟨n4of l,k.bf,k.by_⟩:=by
 have h4:=v.n
 have hlen:(gapLs b ⟨n4of l,k.bf,k.by_⟩).length=b.pts.length:=by
  rw[gapLs,List.length_take];show min _ 4=_;omega
 have hl2:(Waa b l k).length=b.pts.length:=by simp[Waa,hl]
 refine List.ext_getElem? fun i=>?_
 by_cases hi:i<b.pts.length
 ·have h44:i<4:=by omega
  rw[Waa,List.getElem?_map,List.getElem?_range (by omega)]
  rw[gapLs,List.getElem?_take_of_lt hi]
  have:(Zas b ⟨n4of l,k.bf,k.by_⟩).list[i]? = some ((Zas b ⟨n4of l,k.bf,k.by_⟩).get i):=by
   match i,h44 with
   | 0,_=>rfl
   | 1,_=>rfl
   | 2,_=>rfl
   | 3,_=>rfl
  rw[this,Zas,N4.of_get _ h44,if_pos hi,Zk9]
  show some _=some _
  rw[Wae h44]
 ·rw[List.getElem?_eq_none (by omega),List.getElem?_eq_none (by omega)]
theorem gap_get {b:Bk}(v:Zeo b)(x:Boat){i:Nat}(hi:i<b.pts.length):(gapLs b x).getD i 0=(Zas b x).get i:=by
 have h4:=v.n
 have h44:i<4:=by omega
 rw[gapLs,List.getD_eq_getElem?_getD,List.getElem?_take_of_lt hi]
 match i,h44 with
 | 0,_=>rfl
 | 1,_=>rfl
 | 2,_=>rfl
 | 3,_=>rfl
theorem right_eq {b:Bk}(v:Zeo b)(x:Boat):Wak b (gapLs b x)=ZgQ b x:=by
 rw[Wak,ZgQ]
 have:∀ c∈b.cks,decide (c.gl<=(gapLs b x).getD c.p.toNat 0∧(gapLs b x).getD c.p.toNat 0<=c.gh)=ckOk (Zas b x) c:=by
  intro c hc
  obtain⟨⟨h1,h2⟩,_⟩:=v.cks c hc
  rw[ckOk,gap_get v x (by omega)]
 rw[Bool.eq_iff_iff,List.all_eq_true,List.all_eq_true]
 exact⟨fun h c hc=>by rw[<-this c hc];exact h c hc,fun h c hc=>by rw[this c hc];exact h c hc⟩
section
variable  {P:Prg}[Tz P][Loud P]{H:Hp}
set_option maxHeartbeats 4000000
set_option maxRecDepth 20000
end
end Go.Proofs
end
