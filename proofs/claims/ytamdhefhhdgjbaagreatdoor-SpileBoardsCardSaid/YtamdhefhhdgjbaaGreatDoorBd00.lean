/- proofs about Leango given: part Bd0; made by a program out of the longer texts in wip -/
import Derived.Test.YtamdhefhhdgjbaaGreatDoorP44
set_option linter.all false
section
namespace Go.LL
section
variable  {P:Prg}{d:Option Nat}{r:List NI}{op:NOp}{Q:NSt->Hp->Prop}{next:NSt->Hp->Prop}{σ:NSt}{H:Hp}{x y z:Operand}{v:Value}
variable  {l:List (NI×Option Bool)}
variable  {Qe:Ex->NSt->Hp->Prop}{a b c:Zai}
end
section
variable  {P:Prg}{σ:NSt}{H:Hp}{Qe:Ex->NSt->Hp->Prop}{b:Zai}
theorem WaH {n j:Nat}{I:Nat->Hp->Prop}{env:Nat->List (Nat×Value)}{box:Nat->List (Nat×List Value)}{σ':NSt}{ds:List Deferred}(hj:j<n)(hI:I (j+1) H)(he:LeE (env (j+1)) σ')(hb:LeB (box (j+1)) σ')(hd:σ'.defs=ds) :
  ∃ j':{ j:Nat // j<=n },n-j'.1<n-j∧I j'.1 H∧LeE (env j'.1) σ'∧LeB (box j'.1) σ'∧σ'.defs=ds:=⟨⟨j+1,hj⟩,by show n-(j+1)<n-j;omega,hI,he,hb,hd⟩
end
end Go.LL
end
section
open Go Go.LL Go.Z
namespace Go.Proofs
def n32:Zai:=(sq [o 1 (.lbox 1 [1] (t 0)),mi 2 0,mi 3 0] (sq [l 10 1 4 1,o 11 (.call 93 [(t 10),k1]),m 9 11,x 12 9 0,x 13 9 1,m 4 12,m 5 13] (.seq (sq [m 14 5,bk 15 .neq 14 0] (.cond (t 15) (sq [m 16 5,mi 2 0,m 3 16] .ret) .skip)) (sq [mi 6 0] (.seq (sq [mi 7 0] (.block 0 (.loop (.seq (sq [m 17 7,m 18 4,le 19 18,b 20 .lss 17 19] (.cond (t 20) .skip (.exit 0))) (.seq (.block 1 (.seq (.drawn [(l 23 1 4 1,none),(m 24 4,none),(m 25 7,none),(ia 26 4 24 25,none),(o 27 (.fadr 3 (t 26)),none),(ld 28 27,none),(o 8 (.lzero 8 [8,30,32] [z0,z0]),none),(c2 29 104 23 28,(some false)),(ls 8 2 8 29,none)]) (sq [f 30 0 8,ln 31 8 30,f 32 1 8,ln 33 8 32,b 34 .leq 31 33] (.cond (t 34) (.ops [m 35 6,bk 36 .add 35 1,m 6 36]) .skip)))) (.ops [m 21 7,bk 22 .add 21 1,m 7 22])))))) (sq [m 37 6,m 38 4,le 39 38,c2 40 54 37 39,m 2 40,mi 3 0] .ret))))))
def r32:List NRes:=[(.slot 2),(.slot 3)]
theorem c32:IsN Tryz.prog 32 1 n32 r32:=isq [(1,1),(8,8),(30,8),(32,8)] Tryz.func32
def n57:Zai:=(sq [o 2 (.mov (.const s0))] (sq [o 3 (.mov (.const s0))] (.seq (sq [mi 4 0] (.block 0 (.loop (.seq (sq [m 6 4,m 7 0,le 8 7,b 9 .lss 6 8] (.cond (t 9) .skip (.exit 0))) (.seq (.block 1 (sq [mi 5 0] (.seq (.block 2 (.loop (.seq (.seq (.drawn [(m 12 5,none),(m 13 3,none),(le 14 13,none),(b 15 .lss 12 14,none),(m 16 15,none),(mt 16 17 3,none),(mt 16 18 5,none),(gt 16 19 (.iadr 1 (t 17) (t 18)),none),(gt 16 20 (.ld none (t 19)),none),(mt 16 21 0,none),(mt 16 22 4,none),(gt 16 23 (.iadr 1 (t 21) (t 22)),none),(gt 16 24 (.ld none (t 23)),none),(gt 16 25 (.bin .lss (t 20) (t 24)),none),(pa 26 16 25,none)]) (.cond (t 26) .skip (.exit 2))) (.block 3 (.ops [m 27 5,bk 28 .add 27 1,m 5 28]))))) (.seq (.drawn [(m 29 5,none),(m 30 3,none),(le 31 30,none),(b 32 .eql 29 31,none),(m 33 32,none),(mf 33 34 3,none),(mf 33 35 5,none),(gf 33 36 (.iadr 1 (t 34) (t 35)),none),(gf 33 37 (.ld none (t 36)),none),(mf 33 38 0,none),(mf 33 39 4,none),(gf 33 40 (.iadr 1 (t 38) (t 39)),none),(gf 33 41 (.ld none (t 40)),none),(gf 33 42 (.bin .neq (t 37) (t 41)),none),(po 43 33 42,none)]) (.cond (t 43) (.drawn [(m 44 3,none),(m 45 5,none),(o 46 (.pur (.slice 34 (t 44) none (some (t 45)) none) 34),none),(m 47 0,none),(m 48 4,none),(ia 49 1 47 48,none),(ld 50 49,none),(m 52 3,none),(m 53 5,none),(o 54 (.pur (.slice 34 (t 52) (some (t 53)) none none) 34),none),(o 51 (.buildS 3 1 [z0] [(0,(1,(t 50)))]),(some false)),(o 55 (.raw (.call (.mk (.builtin .append) #[(t 51),(t 54)] #[34,34])) 34),(some false)),(o 56 (.raw (.call (.mk (.builtin .append) #[(t 46),(t 55)] #[34,34])) 34),none),(m 3 56,none)]) .skip))))) (.ops [m 10 4,bk 11 .add 10 1,m 4 11])))))) (sq [m 57 3,m 2 57] .ret))))
def r57:List NRes:=[(.slot 2)]
theorem c57:IsN Tryz.prog 57 1 n57 r57:=isq [] Tryz.func57
def n67:Zai:=(sq [o 2 (.lbox 2 [2,5,10] (t 0)),o 3 (.lbox 3 [3,7,12] (t 1)),o 4 (.lzero 4 [4] [z0,z0])] (sq [f 5 0 2,ln 6 2 5,f 7 0 3,ln 8 3 7,o 9 (.pur (.call (.mk (.builtin .max) #[(t 6),(t 8)] #[3,3])) 3),f 10 1 2,ln 11 2 10,f 12 1 3,ln 13 3 12,o 14 (.pur (.call (.mk (.builtin .min) #[(t 11),(t 13)] #[3,3])) 3),o 15 (.build [z0,z0] [(0,(1,(t 9))),(1,(1,(t 14)))]),ls 4 2 4 15] .ret))
def r67:List NRes:=[(.var 4 4 (some 2))]
theorem c67:IsN Tryz.prog 67 2 n67 r67:=isq [(2,2),(3,3),(4,4),(5,2),(7,3),(10,2),(12,3)] Tryz.func67
def n142:Zai:=(sq [o 2 (.lbox 2 [2,8,14] (t 0)),m0 4] (.seq (sq [mi 5 0] (.block 0 (.loop (.seq (sq [m 7 5,f 8 3 2,ln 9 2 8,le 10 9,b 11 .lss 7 10] (.cond (t 11) .skip (.exit 0))) (.seq (.block 1 (sq [f 14 3 2,ln 15 2 14,m 16 5,ia 17 3 15 16,lm 18 3 17,o 6 (.lzero 6 [6,20,24,25,27,28] [z0,z0,z0]),ls 6 3 6 18] (.seq (.drawn [(m 19 1,none),(f 20 0 6,none),(ln 21 6 20,none),(ia 22 1 19 21,none),(ld 23 22,none),(f 24 1 6,none),(f 25 0 24,none),(ln 26 6 25,none),(f 27 1 6,none),(f 28 1 27,none),(ln 29 6 28,none),(c3 30 53 23 26 29,none),(o 31 (.not (t 30)),none)]) (.cond (t 31) (sq [m0 4] .ret) .skip)))) (.ops [m 12 5,bk 13 .add 12 1,m 5 13])))))) (sq [m1 4] .ret)))
def r142:List NRes:=[(.slot 4)]
theorem c142:IsN Tryz.prog 142 2 n142 r142:=isq [(2,2),(6,6),(8,2),(14,2),(20,6),(24,6),(25,6),(27,6),(28,6)] Tryz.func142
end Go.Proofs
end
section
open Go Go.LL Go.Z
namespace Go.Proofs
def n88:Zai:=(sq [o 1 (.lbox 1 [1] (t 0)),o 2 (.mov (.const s0))] (sq [o 3 (.mov (.const s0))] (sq [l 9 1 4 1,c1 10 145 9,m 4 10] (sq [o 11 (.build [z0,z0] []),o 12 (.buildS 70 1 [z0,z0] [(0,(2,(t 11)))]),l 13 1 4 1,c1 14 56 13,o 15 (.raw (.call (.mk (.builtin .append) #[(t 12),(t 14)] #[38,38])) 38),m 5 15] (.seq (sq [mi 6 0] (.block 0 (.loop (.seq (sq [m 16 6,m 17 4,le 18 17,b 19 .lss 16 18] (.cond (t 19) .skip (.exit 0))) (.seq (.block 1 (sq [mi 7 0] (.block 2 (.loop (.seq (sq [m 22 7,m 23 5,le 24 23,b 25 .lss 22 24] (.cond (t 25) .skip (.exit 2))) (.seq (.block 3 (.seq (.drawn [(l 28 1 4 1,none),(m 29 4,none),(m 30 6,none),(ia 31 1 29 30,none),(ld 32 31,none),(m 33 5,none),(m 34 7,none),(ia 35 2 33 34,none),(lm 36 2 35,none),(c3 37 75 28 32 36,none),(m 8 37,none)]) (sq [l 38 1 4 1,m 39 8,c2 40 142 38 39] (.cond (t 40) (.drawn [(m 41 3,none),(m 42 4,none),(m 43 6,none),(ia 44 1 42 43,none),(ld 45 44,none),(m 46 5,none),(m 47 7,none),(ia 48 2 46 47,none),(lm 49 2 48,none),(m 50 8,none),(o 51 (.build [s0,z0,z0,s0] [(0,(1,(t 45))),(1,(2,(t 49))),(3,(1,(t 50)))]),none),(o 52 (.buildS 125 1 [s0,z0,z0,s0] [(0,(4,(t 51)))]),(some false)),(o 53 (.raw (.call (.mk (.builtin .append) #[(t 41),(t 52)] #[108,108])) 108),none),(m 3 53,none)]) .skip)))) (.ops [m 26 7,bk 27 .add 26 1,m 7 27]))))))) (.ops [m 20 6,bk 21 .add 20 1,m 6 21])))))) (sq [m 54 3,m 2 54] .ret))))))
def r88:List NRes:=[(.slot 2)]
theorem c88:IsN Tryz.prog 88 1 n88 r88:=isq [(1,1)] Tryz.func88
def n93:Zai:=(sq [o 2 (.lbox 2 [2] (t 0)),o 4 (.mov (.const s0)),mi 5 0] (.seq (sq [l 8 2 4 2,c1 9 64 8,m 6 9] (sq [m 10 6,bk 11 .neq 10 0] (.cond (t 11) (sq [m 12 6,o 4 (.mov (.const s0)),m 5 12] .ret) .skip))) (.seq (sq [m 13 1,o 14 (.not (t 13))] (.cond (t 14) (sq [o 4 (.mov (.const s0)),mi 5 6] .ret) .skip)) (sq [l 15 2 4 2,c1 16 88 15,m 7 16] (.seq (sq [m 17 7,le 18 17,bk 19 .eql 18 0] (.cond (t 19) (sq [o 4 (.mov (.const s0)),mi 5 9] .ret) .skip)) (sq [m 20 7,m 4 20,mi 5 0] .ret))))))
def r93:List NRes:=[(.slot 4),(.slot 5)]
theorem c93:IsN Tryz.prog 93 2 n93 r93:=isq [(2,2)] Tryz.func93
def n118:Zai:=(sq [o 3 (.lbox 3 [3] (t 0)),mi 6 0] (sq [mi 7 0] (.seq (sq [mi 8 0] (.block 0 (.loop (.seq (sq [m 9 8,m 10 1,le 11 10,b 12 .lss 9 11] (.cond (t 12) .skip (.exit 0))) (.seq (.block 1 (.seq (.drawn [(l 15 3 4 3,none),(m 16 1,none),(m 17 8,none),(ia 18 4 16 17,none),(o 19 (.fadr 3 (t 18)),none),(ld 20 19,none),(m 21 2,none),(c3 22 170 15 20 21,none)]) (.cond (t 22) (.ops [m 23 7,bk 24 .add 23 1,m 7 24]) .skip))) (.ops [m 13 8,bk 14 .add 13 1,m 8 14])))))) (sq [m 25 7,m 6 25] .ret))))
def r118:List NRes:=[(.slot 6)]
theorem c118:IsN Tryz.prog 118 3 n118 r118:=isq [(3,3)] Tryz.func118
end Go.Proofs
end
section
open Go Go.LL Go.Z
namespace Go.Proofs
def n34:Zai:=(sq [o 1 (.lbox 1 [1] (t 0)),mi 2 0,m0 3,mi 4 0] (sq [l 10 1 4 1,o 11 (.call 93 [(t 10),k1]),m 9 11,x 12 9 0,x 13 9 1,m 5 12,m 6 13] (.seq (sq [m 14 6,bk 15 .neq 14 0] (.cond (t 15) (sq [m 16 6,mi 2 0,m0 3,m 4 16] .ret) .skip)) (.seq (.drawn [(l 17 1 4 1,none),(m 18 5,none),(o 19 (.iadr 4 (t 18) (k 0)),none),(o 20 (.fadr 3 (t 19)),none),(ld 21 20,none),(o 7 (.lzero 7 [7,38,40,43] [z0,z0]),none),(c2 22 104 17 21,(some false)),(ls 7 2 7 22,none)]) (.seq (sq [mi 8 1] (.block 0 (.loop (.seq (sq [m 23 8,m 24 5,le 25 24,b 26 .lss 23 25] (.cond (t 26) .skip (.exit 0))) (.seq (.block 1 (.drawn [(l 29 7 2 7,none),(l 30 1 4 1,none),(m 31 5,none),(m 32 8,none),(ia 33 4 31 32,none),(o 34 (.fadr 3 (t 33)),none),(ld 35 34,none),(c2 36 104 30 35,(some false)),(c2 37 67 29 36,none),(ls 7 2 7 37,none)])) (.ops [m 27 8,bk 28 .add 27 1,m 8 28])))))) (.seq (sq [f 38 0 7,ln 39 7 38,f 40 1 7,ln 41 7 40,b 42 .gtr 39 41] (.cond (t 42) (sq [mi 2 0,m0 3,mi 4 0] .ret) .skip)) (sq [f 43 0 7,ln 44 7 43,m 2 44,m1 3,mi 4 0] .ret)))))))
def r34:List NRes:=[(.slot 2),(.slot 3),(.slot 4)]
theorem c34:IsN Tryz.prog 34 1 n34 r34:=isq [(1,1),(7,7),(38,7),(40,7),(43,7)] Tryz.func34
def n54:Zai:=(sq [mi 4 0] (.seq (sq [m 5 0,bk 6 .eql 5 0] (.cond (t 6) (sq [mi 4 2] .ret) .skip)) (.seq (sq [m 7 0,m 8 1,b 9 .eql 7 8] (.cond (t 9) (sq [mi 4 1] .ret) .skip)) (sq [mi 4 0] .ret))))
def r54:List NRes:=[(.slot 4)]
theorem c54:IsN Tryz.prog 54 2 n54 r54:=isq [] Tryz.func54
def n104:Zai:=(sq [o 2 (.lbox 2 [2,15] (t 0)),o 4 (.lzero 4 [4] [z0,z0])] (sq [o 8 (.build [z0,z0] [(0,(1,(.const (.int .i64 (Int.negSucc 998))))),(1,(1,(k 999)))]),o 5 (.lzero 5 [5] [z0,z0]),ls 5 2 5 8] (.seq (sq [mi 6 0] (.block 0 (.loop (.seq (sq [m 9 6,m 10 1,le 11 10,b 12 .lss 9 11] (.cond (t 12) .skip (.exit 0))) (.seq (.block 1 (sq [f 15 2 2,ln 16 2 15,m 17 6,ia 18 5 16 17,lm 19 5 18,o 7 (.lzero 7 [7,21,22,29,30,32] [z0,z0,z0,z0,z0]),ls 7 5 7 19] (.drawn [(l 20 5 2 5,none),(f 21 2 7,none),(f 22 0 21,none),(ln 23 7 22,none),(m 24 1,none),(m 25 6,none),(ia 26 1 24 25,none),(ld 27 26,none),(b 28 .sub 23 27,none),(f 29 2 7,none),(f 30 1 29,none),(ln 31 7 30,none),(f 32 4 7,none),(ln 33 7 32,none),(b 34 .sub 31 33,none),(m 35 1,none),(m 36 6,none),(ia 37 1 35 36,none),(ld 38 37,none),(b 39 .sub 34 38,none),(o 40 (.build [z0,z0] [(0,(1,(t 28))),(1,(1,(t 39)))]),none),(c2 41 67 20 40,none),(ls 5 2 5 41,none)]))) (.ops [m 13 6,bk 14 .add 13 1,m 6 14])))))) (sq [l 42 5 2 5,ls 4 2 4 42] .ret))))
def r104:List NRes:=[(.var 4 4 (some 2))]
theorem c104:IsN Tryz.prog 104 2 n104 r104:=isq [(2,2),(4,4),(5,5),(7,7),(15,2),(21,7),(22,7),(29,7),(30,7),(32,7)] Tryz.func104
end Go.Proofs
end
section
open Go Go.LL Go.Z
namespace Go.Proofs
def n75:Zai:=(sq [o 3 (.lbox 3 [3,16] (t 0)),o 5 (.lbox 5 [5,24,28] (t 2)),o 6 (.mov (.const s0))] (sq [o 7 (.mov (.const s0))] (.seq (sq [mi 8 0] (.block 0 (.loop (.seq (sq [m 10 8,m 11 1,le 12 11,b 13 .lss 10 12] (.cond (t 13) .skip (.exit 0))) (.seq (.block 1 (.seq (.drawn [(f 16 0 3,none),(ln 17 3 16,none),(m 18 1,none),(m 19 8,none),(ia 20 1 18 19,none),(ld 21 20,none),(b 22 .sub 17 21,none),(m 9 22,none)]) (.seq (sq [m 23 8,f 24 0 5,ln 25 5 24,b 26 .geq 23 25] (.cond (t 26) (.ops [m 27 9,f 28 1 5,ln 29 5 28,b 30 .add 27 29,m 9 30]) .skip)) (.ops [m 31 7,m 32 9,o 33 (.buildS 3 1 [z0] [(0,(1,(t 32)))]),o 34 (.raw (.call (.mk (.builtin .append) #[(t 31),(t 33)] #[34,34])) 34),m 7 34])))) (.ops [m 14 8,bk 15 .add 14 1,m 8 15])))))) (sq [m 35 7,m 6 35] .ret))))
def r75:List NRes:=[(.slot 6)]
theorem c75:IsN Tryz.prog 75 3 n75 r75:=isq [(3,3),(5,5),(16,3),(24,5),(28,5)] Tryz.func75
def n145:Zai:=(sq [o 1 (.lbox 1 [1,10,22,30] (t 0)),o 2 (.mov (.const s0))] (sq [o 8 (.buildS 34 1 [s0] [(0,(1,(.const s0)))]),m 3 8] (.seq (sq [mi 4 0] (.block 0 (.loop (.seq (sq [m 9 4,f 10 2 1,ln 11 1 10,le 12 11,b 13 .lss 9 12] (.cond (t 13) .skip (.exit 0))) (.seq (.block 1 (sq [o 5 (.mov (.const s0))] (.seq (sq [mi 6 0] (.block 2 (.loop (.seq (sq [m 16 6,m 17 3,le 18 17,b 19 .lss 16 18] (.cond (t 19) .skip (.exit 2))) (.seq (.block 3 (sq [f 22 2 1,ln 23 1 22,m 24 4,ia 25 5 23 24,o 26 (.fadr 0 (t 25)),o 27 (.fadr 0 (t 26)),ld 28 27,m 7 28] (.block 4 (.loop (.seq (sq [m 29 7,f 30 2 1,ln 31 1 30,m 32 4,ia 33 5 31 32,o 34 (.fadr 0 (t 33)),o 35 (.fadr 1 (t 34)),ld 36 35,b 37 .leq 29 36] (.cond (t 37) .skip (.exit 4))) (.seq (.block 5 (.ops [m 40 5,o 41 (.raw (.buildSlice 34 0 #[]) 34),m 42 3,m 43 6,ia 44 1 42 43,ld 45 44,o 46 (.raw (.call (.mk (.builtin .append) #[(t 41),(t 45)] #[34,34])) 34),m 47 7,o 48 (.buildS 3 1 [z0] [(0,(1,(t 47)))]),o 49 (.raw (.call (.mk (.builtin .append) #[(t 46),(t 48)] #[34,34])) 34),o 50 (.buildS 34 1 [s0] [(0,(1,(t 49)))]),o 51 (.raw (.call (.mk (.builtin .append) #[(t 40),(t 50)] #[157,157])) 157),m 5 51])) (.ops [m 38 7,bk 39 .add 38 1,m 7 39]))))))) (.ops [m 20 6,bk 21 .add 20 1,m 6 21])))))) (.ops [m 52 5,m 3 52])))) (.ops [m 14 4,bk 15 .add 14 1,m 4 15])))))) (sq [m 53 3,m 2 53] .ret))))
def r145:List NRes:=[(.slot 2)]
theorem c145:IsN Tryz.prog 145 1 n145 r145:=isq [(1,1),(10,1),(22,1),(30,1)] Tryz.func145
end Go.Proofs
end
section
open Go Go.LL Go.Z
namespace Go.Proofs
def n36:Zai:=(sq [o 1 (.lbox 1 [1] (t 0)),mi 2 0,mi 3 0,mi 4 0] (sq [l 15 1 4 1,o 16 (.call 93 [(t 15),k1]),m 14 16,x 17 14 0,x 18 14 1,m 5 17,m 6 18] (.seq (sq [m 19 6,bk 20 .neq 19 0] (.cond (t 20) (sq [m 21 6,mi 2 0,mi 3 0,m 4 21] .ret) .skip)) (sq [o 7 (.mov (.const s0))] (.seq (sq [mi 8 0] (.block 0 (.loop (.seq (sq [m 22 8,m 23 5,le 24 23,b 25 .lss 22 24] (.cond (t 25) .skip (.exit 0))) (.seq (.block 1 (.seq (.drawn [(l 28 1 4 1,none),(m 29 5,none),(m 30 8,none),(ia 31 4 29 30,none),(o 32 (.fadr 3 (t 31)),none),(ld 33 32,none),(o 9 (.lzero 9 [9,35,37,41] [z0,z0]),none),(c2 34 104 28 33,(some false)),(ls 9 2 9 34,none)]) (sq [f 35 0 9,ln 36 9 35,f 37 1 9,ln 38 9 37,b 39 .leq 36 38] (.cond (t 39) (.ops [m 40 7,f 41 0 9,ln 42 9 41,o 43 (.buildS 3 1 [z0] [(0,(1,(t 42)))]),o 44 (.raw (.call (.mk (.builtin .append) #[(t 40),(t 43)] #[34,34])) 34),m 7 44]) .skip)))) (.ops [m 26 8,bk 27 .add 26 1,m 8 27])))))) (sq [m 45 7,c1 46 57 45,m 7 46] (sq [mi 10 0,mi 11 0] (.seq (sq [mi 12 0] (.block 2 (.loop (.seq (sq [m 47 12,m 48 7,le 49 48,b 50 .lss 47 49] (.cond (t 50) .skip (.exit 2))) (.seq (.block 3 (.seq (.drawn [(l 53 1 4 1,none),(m 54 5,none),(m 55 7,none),(m 56 12,none),(ia 57 1 55 56,none),(ld 58 57,none),(c3 59 118 53 54 58,none),(m 13 59,none)]) (sq [m 60 13,m 61 11,b 62 .gtr 60 61] (.cond (t 62) (.ops [m 63 7,m 64 12,ia 65 1 63 64,ld 66 65,m 67 13,m 10 66,m 11 67]) .skip)))) (.ops [m 51 12,bk 52 .add 51 1,m 12 52])))))) (sq [m 68 10,m 69 11,m 2 68,m 3 69,mi 4 0] .ret)))))))))
def r36:List NRes:=[(.slot 2),(.slot 3),(.slot 4)]
theorem c36:IsN Tryz.prog 36 1 n36 r36:=isq [(1,1),(9,9),(35,9),(37,9),(41,9)] Tryz.func36
def n56:Zai:=(sq [o 1 (.lbox 1 [1,7,13,17] (t 0)),o 2 (.mov (.const s0))] (sq [o 3 (.mov (.const s0))] (.seq (sq [mi 4 1] (.block 0 (.loop (.seq (sq [m 6 4,f 7 2 1,ln 8 1 7,le 9 8,b 10 .lss 6 9] (.cond (t 10) .skip (.exit 0))) (.seq (.block 1 (sq [f 13 1 1,ln 14 1 13,o 15 (.raw (.unOp .neg 3 (t 14)) 3),m 5 15] (.block 2 (.loop (.seq (sq [m 16 5,f 17 1 1,ln 18 1 17,b 19 .leq 16 18] (.cond (t 19) .skip (.exit 2))) (.seq (.block 3 (sq [m 22 5,bk 23 .neq 22 0] (.cond (t 23) (.ops [m 24 3,m 25 4,m 26 5,o 27 (.build [z0,z0] [(0,(1,(t 25))),(1,(1,(t 26)))]),o 28 (.buildS 70 1 [z0,z0] [(0,(2,(t 27)))]),o 29 (.raw (.call (.mk (.builtin .append) #[(t 24),(t 28)] #[38,38])) 38),m 3 29]) .skip))) (.ops [m 20 5,bk 21 .add 20 1,m 5 21]))))))) (.ops [m 11 4,bk 12 .add 11 1,m 4 12])))))) (sq [m 30 3,m 2 30] .ret))))
def r56:List NRes:=[(.slot 2)]
theorem c56:IsN Tryz.prog 56 1 n56 r56:=isq [(1,1),(7,1),(13,1),(17,1)] Tryz.func56
def n170:Zai:=(sq [o 3 (.lbox 3 [3,15] (t 0)),m0 6] (.seq (sq [mi 7 0] (.block 0 (.loop (.seq (sq [m 9 7,m 10 1,le 11 10,b 12 .lss 9 11] (.cond (t 12) .skip (.exit 0))) (.seq (.block 1 (sq [f 15 2 3,ln 16 3 15,m 17 7,ia 18 5 16 17,lm 19 5 18,o 8 (.lzero 8 [8,26,27,37,40,41] [z0,z0,z0,z0,z0]),ls 8 5 8 19] (.seq (.drawn [(m 20 1,none),(m 21 7,none),(ia 22 1 20 21,none),(ld 23 22,none),(m 24 2,none),(b 25 .add 23 24,none),(f 26 2 8,none),(f 27 0 26,none),(ln 28 8 27,none),(b 29 .lss 25 28,none),(m 30 29,none),(mf 30 31 1,none),(mf 30 32 7,none),(gf 30 33 (.iadr 1 (t 31) (t 32)),none),(gf 30 34 (.ld none (t 33)),none),(mf 30 35 2,none),(gf 30 36 (.bin .add (t 34) (t 35)),none),(gf 30 37 (.lfadr 4 8),none),(gf 30 38 (.lld 8 none 37),none),(gf 30 39 (.bin .add (t 36) (t 38)),none),(gf 30 40 (.lfadr 2 8),none),(gf 30 41 (.lfadr 1 40),none),(gf 30 42 (.lld 8 none 41),none),(gf 30 43 (.bin .gtr (t 39) (t 42)),none),(po 44 30 43,none)]) (.cond (t 44) (sq [m0 6] .ret) .skip)))) (.ops [m 13 7,bk 14 .add 13 1,m 7 14])))))) (sq [m1 6] .ret)))
def r170:List NRes:=[(.slot 6)]
theorem c170:IsN Tryz.prog 170 3 n170 r170:=isq [(3,3),(8,8),(15,3),(26,8),(27,8),(37,8),(40,8),(41,8)] Tryz.func170
end Go.Proofs
end
section
open Go Go.LL
namespace Go.Proofs
theorem ui4:Tryz.prog.underlying 4=some .bool:=by kernel_rfl
section
variable  {P:Prg}[Tz P]{H:Hp}{g:Bool}{d:Nat}
end
end Go.Proofs
end
section
open Go Go.LL
namespace Go.Proofs
section
variable  {P:Prg}[Tz P]{H:Hp}{d:Option Nat}{next:NSt->Hp->Prop}{σ:NSt}{x y:Operand}{ty t2:TypeId}{v:Value}
theorem eq4_w' {a b:Bool}(d:Nat)(Q:Bool->Bool->Hp->Prop)(g:Bool)(H:Hp)(hq:Q (a == b) g H):wpL P.toPQ (Op.equalIn (d+1) 4 (vb a) (vb b)) Q g H:=by
 simp only[Op.equalIn,Zaa,Zad (und (P:=P) ui4),Zac]
 exact hq
theorem eq4_w {a b:Bool}(Q:Bool->Bool->Hp->Prop)(g:Bool)(H:Hp)(hq:Q (a == b) g H):wpL P.toPQ (Op.equalIn (9999+1) 4 (vb a) (vb b)) Q g H:=eq4_w' 9999 Q g H hq
theorem om_neb {a b:Bool}(e1:σ.get x=some (vb a))(e2:σ.get y=some (vb b))(h:next (σ.set d (vb (a != b))) H):(NOp.pur (.binOp .neq 4 x y t2) ty).m P d next σ H:=by
 refine Zcb (by simp[Op.operands,e1,e2]) ?_ h
 have:execOp (fun x=>(σ.get x).getD undef) (bare (.binOp .neq 4 x y t2) ty)=(do let v <-(do eqGuard .neq 4 x y (vb a) (vb b);binOp .neq 4 (vb a) (vb b));pure (.value v)):=by simp[execOp,bare,e1,e2]
 rw[this]
 refine Zgz fun Q g H hq=>?_
 simp only[eqGuard,Zaa,Zac]
 exact Zaa.2 (eq4_w _ _ _ hq)
end
end Go.Proofs
end
section
open Go Go.LL
namespace Go.Proofs
theorem Wa9 (l:List Slip):((encs l).all Value.isOne)=true:=Zh3 (fun _=>rfl) l
section
variable  {P:Prg}[Tz P][Loud P]{H:Hp}
set_option maxHeartbeats 1000000
end
end Go.Proofs
end
section
open Go Go.LL Go.Z
namespace Go.Proofs
def n4:Zai:=(sq [o 1 (.lbox 1 [1] (t 0)),m0 2] (.seq (sq [l 13 1 4 1,c1 14 17 13] (.cond (t 14) (sq [c0 15 18,m 2 15] .ret) .skip)) (sq [l 17 1 4 1,c1 18 31 17,m 16 18,x 19 16 0,x 20 16 1,m 3 19,m 4 20] (sq [l 22 1 4 1,c1 23 32 22,m 21 23,x 24 21 0,x 25 21 1,m 5 24,m 6 25] (.seq (sq [m 26 3,m 27 5,b 28 .neq 26 27,m 29 28,mf 29 30 4,mf 29 31 6,gf 29 32 (.bin .neq (t 30) (t 31)),po 33 29 32] (.cond (t 33) (sq [m0 2] .ret) .skip)) (sq [l 35 1 4 1,c1 36 33 35,m 34 36,x 37 34 0,x 38 34 1,x 39 34 2,m 7 37,m 8 38,m 4 39] (sq [l 41 1 4 1,c1 42 34 41,m 40 42,x 43 40 0,x 44 40 1,x 45 40 2,m 9 43,m 10 44,m 6 45] (.seq (sq [m 46 7,m 47 9,b 48 .neq 46 47,m 49 48,mf 49 50 8,mf 49 51 10,gf 49 52 (.pur (.binOp .neq 4 (t 50) (t 51) 4) 4),po 53 49 52,m 54 53,mf 54 55 4,mf 54 56 6,gf 54 57 (.bin .neq (t 55) (t 56)),po 58 54 57] (.cond (t 58) (sq [m0 2] .ret) .skip)) (sq [l 60 1 4 1,c1 61 35 60,m 59 61,x 62 59 0,x 63 59 1,x 64 59 2,m 7 62,m 11 63,m 4 64] (sq [l 66 1 4 1,c1 67 36 66,m 65 67,x 68 65 0,x 69 65 1,x 70 65 2,m 9 68,m 12 69,m 6 70] (sq [m 71 7,m 72 9,b 73 .eql 71 72,m 74 73,mt 74 75 11,mt 74 76 12,gt 74 77 (.bin .eql (t 75) (t 76)),pa 78 74 77,m 79 78,mt 79 80 4,mt 79 81 6,gt 79 82 (.bin .eql (t 80) (t 81)),pa 83 79 82,m 84 83,gt 84 85 (.call 18 []),pa 86 84 85,m 2 86] .ret)))))))))))
def r4:List NRes:=[(.slot 2)]
theorem c4:IsN Tryz.prog 4 1 n4 r4:=isq [(1,1)] Tryz.func4
end Go.Proofs
end
section
open Go Go.LL
namespace Go.Proofs
section
variable  {P:Prg}[Tz P][Loud P]{H:Hp}
set_option maxHeartbeats 1000000
theorem Told_ok (k n:Nat):LL.Zag P 54 #[vi k,vi n] H fun v H'=>H=H'∧v=vi (Zhu k n):=by
 refine IsN.m (isn c54) (args:=[vi k,vi n]) rfl ?_
 unfold n54
 refine wkT ?_
 refine wiT (fun h1=>?_) (fun h1=>?_)
 ·refine wkT ?_
  exact⟨rfl,by rw[Zhu,if_pos (by omega)];rfl⟩
 ·refine wkT ?_
  refine wiT (fun h2=>?_) (fun h2=>?_)
  ·refine wkT ?_
   exact⟨rfl,by rw[Zhu,if_neg (by omega),if_pos (by omega)];rfl⟩
  ·refine wkT ?_
   exact⟨rfl,by rw[Zhu,if_neg (by omega),if_neg (by omega)];rfl⟩
end
end Go.Proofs
end
section
open Go Go.LL
namespace Go.Proofs
theorem t38e:Tryz.prog.underlying 38=some (.slice 70):=by kernel_rfl
def Wab (b:Bk)(l:List Int)(k:Slip):List Int:=(List.range l.length).map fun i=>b.op-l.getD i 0+if k.bf<=i then k.by_ else 0
def WaN (b:Bk)(g:List Int):Bool:=b.cks.all fun c=>decide (c.gl<=g.getD c.p.toNat 0∧g.getD c.p.toNat 0<=c.gh)
section
variable  {P:Prg}[Tz P][Loud P]{H:Hp}
set_option maxHeartbeats 2000000
set_option maxRecDepth 20000
theorem Wbb {H:Hp}{r:Nat}{k:Slip}:SlAt (H.ins r (.cells [vi k.bf,vi k.by_].toArray 70)) (.slice (some ⟨r,0,none⟩) 1 1) [k]:=Za4 (l:=[k])
theorem Wa3 {bv:Value}{b:Bk}(hb:BkAt H bv b)(h0:0<=b.sl)(h1:b.sl<=100)(h2:b.pts.length<=100)(h2':1<=b.pts.length) :
  LL.Zag P 56 #[bv] H fun v H'=>Inc H H'∧∃ bb,Own H H' 70 v ((ZaC b).drop 1) bb:=by
 have hs:∀ g,P.still g=false:=Loud.loud
 obtain⟨pv,cv,rfl,hp,hc⟩:=hb
 obtain⟨Ap,cp,rfl,hp'⟩:=id hp
 obtain⟨Ac,cc,rfl,hc'⟩:=id hc
 obtain⟨sl,hsl⟩:∃ sl:Nat,b.sl=sl:=⟨b.sl.toNat,by omega⟩
 have hdr:(ZaC b).drop 1=outerR b.pts.length sl (b.pts.length-1):=by rw[ZaC,hsl];rfl
 rw[hdr]
 have hol:=Zis b.pts.length sl
 refine IsN.m (isn c56) (args:=[.agg #[vi b.op,vi b.sl,.slice Ap b.pts.length cp,.slice Ac b.cks.length cc]]) rfl ?_
 unfold n56
 refine wkT ?_
 refine ZaP (α:=Value×List Slip×Option Nat) (b.pts.length-1) (fun j s H'=>Inc H H'∧Own H H' 70 s.1 s.2.1 s.2.2∧s.2.1++outerR b.pts.length sl (b.pts.length-1-j)=outerR b.pts.length sl (b.pts.length-1)∧s.2.1.length<=j * 300)
  (fun j s=>[(1,vi 0),(3,s.1),(4,vi (j+1:Nat))]) (fun _ _=>[(1,[vi b.op,vi b.sl,.slice Ap b.pts.length cp,.slice Ac b.cks.length cc])]) (.slice none 0 0,[],none) ⟨.refl H,.nil _ _ _,rfl,by simp⟩ ⟨rfl,rfl,rfl,trivial⟩ ⟨rfl,trivial⟩ ?_
 rintro j ⟨v3,l3,b3⟩ H1 hj ⟨hi1,o3,e3,len3⟩
 simp only at o3 e3 len3
 refine wkT ?_
 refine wiT (fun h3=>?_) (fun h3=>?_)
 ·have hj':j<b.pts.length-1:=by omega
  refine wkT ?_
  refine om_neg rfl ⟨by omega,by omega⟩ ?_
  refine wkT ?_
  have e1:b.pts.length-1-j=(b.pts.length-1-(j+1))+1:=by omega
  rw[e1,outerR]at e3
  have e2:((b.pts.length:Int)-((b.pts.length-1-(j+1))+1:Nat))=(j+1:Nat):=by omega
  rw[e2]at e3
  refine ZaP (α:=Value×List Slip×Option Nat) (2 * sl+1) (fun k s H'=>Inc H H'∧Own H H' 70 s.1 s.2.1 s.2.2∧s.2.1++(innerR (j+1:Nat) sl (2 * sl+1-k)++outerR b.pts.length sl (b.pts.length-1-(j+1)))=outerR b.pts.length sl (b.pts.length-1)∧s.2.1.length<=j * 300+k)
   (fun k s=>[(1,vi 0),(3,s.1),(4,vi (j+1:Nat)),(5,vi (-b.sl+k))]) (fun _ _=>[(1,[vi b.op,vi b.sl,.slice Ap b.pts.length cp,.slice Ac b.cks.length cc])]) (v3,l3,b3) ⟨hi1,o3,e3,by show l3.length<=j * 300+0;omega⟩ ⟨rfl,rfl,rfl,by simp[NSt.set],trivial⟩ ⟨rfl,trivial⟩ ?_
  rintro k ⟨v4,l4,b4⟩ H2 hk ⟨hi2,o4,e4,len4⟩
  simp only at o4 e4 len4
  refine wkT ?_
  refine wiT (fun h4=>?_) (fun h4=>?_)
  ·have hk':k<2 * sl+1:=by omega
   have e5:2 * sl+1-k=(2 * sl+1-(k+1))+1:=by omega
   have e6:(sl:Int)-(2 * sl+1-(k+1):Nat)=-b.sl+k:=by omega
   rw[e5,innerR,e6]at e4
   refine wkT ?_
   refine wiT (fun h5=>?_) (fun h5=>?_)
   ·rw[if_neg h5,List.cons_append]at e4
    refine wkT ?_
    refine Zat (cs:=[vi (j+1:Nat),vi (-b.sl+k)]) (hs _) rfl fun r1 hr1=>?_
    refine wkT ?_
    have hne1:=Wbb (H:=H2) (r:=r1) (k:=⟨(j+1:Nat),-b.sl+k⟩)
    generalize hkk:(⟨(j+1:Nat),-b.sl+k⟩:Slip)=kk at *
    refine ZbW (l':=[kk]) (und t38e) (und t38e) (tif t70) rfl (by decide) (hi2.trans (Zaj hr1)) (o4.ins hr1) (by subst hkk;exact hne1) rfl (by simp;omega) (by omega) rfl rfl (hs _) fun v5 H3 b5 k1 k2 k3=>?_
    refine wkT ?_
    refine⟨(⟨k+1,by omega⟩,(v5,l4++[kk],b5)),Nat.sub_lt_sub_left (by omega) (Nat.lt_succ_self k),⟨k1,k2,by rw[List.append_assoc];exact e4,by show (l4++[kk]).length<=j * 300+(k+1);rw[List.length_append,List.length_singleton];omega⟩,⟨rfl,rfl,rfl,?_,trivial⟩,⟨rfl,trivial⟩,rfl⟩
    show some (vi (-b.sl+k+1))=some (vi (-b.sl+(k+1:Nat)))
    congr 2;omega
   ·rw[if_pos h5]at e4
    refine wkT ?_
    refine⟨(⟨k+1,by omega⟩,(v4,l4,b4)),Nat.sub_lt_sub_left (by omega) (Nat.lt_succ_self k),⟨hi2,o4,e4,by show l4.length<=j * 300+(k+1);omega⟩,⟨rfl,rfl,rfl,?_,trivial⟩,⟨rfl,trivial⟩,rfl⟩
    show some (vi (-b.sl+k+1))=some (vi (-b.sl+(k+1:Nat)))
    congr 2;omega
  ·have hk2:2 * sl+1-k=0:=by omega
   rw[hk2,innerR,List.nil_append]at e4
   refine wkT ?_
   refine⟨(⟨j+1,by omega⟩,(v4,l4,b4)),Nat.sub_lt_sub_left (by omega) (Nat.lt_succ_self j),⟨hi2,o4,e4,by show l4.length<=(j+1) * 300;omega⟩,⟨rfl,rfl,?_,trivial⟩,⟨rfl,trivial⟩,rfl⟩
   show some (vi ((j+1:Nat)+1))=some (vi (j+1+1:Nat))
   congr 2
 ·have:j=b.pts.length-1:=by omega
  subst this
  rw[Nat.sub_self,outerR,List.append_nil]at e3
  subst e3
  refine wkT ?_
  exact⟨hi1,b3,o3⟩
end
end Go.Proofs
end
section
open Go Go.LL
namespace Go.Proofs
theorem Wbc {H:Hp}{r:Nat}{E:TypeId}{v:Value}:SlAt (H.ins r (.cells [v].toArray E)) (.slice (some ⟨r,0,none⟩) 1 1) [v]:=Za4 (l:=[v])
theorem WaZ {H:Hp}{r:Nat}{E:TypeId}{x:Int}:SlAt (H.ins r (.cells [vi x].toArray E)) (.slice (some ⟨r,0,none⟩) 1 1) [x]:=Za4 (l:=[x])
section
variable  {P:Prg}[Tz P][Loud P]{H:Hp}
set_option maxHeartbeats 2000000
set_option maxRecDepth 20000
theorem Wbp {bv lv:Value}{b:Bk}{l:List Int}{k:Slip}(hb:BkAt H bv b)(hlv:SlAt H lv l)(hl:l.length<=1000000)(ho:Sm b.op)(hsm:∀ x∈l,Sm x)(hk:Sm k.by_) :
  LL.Zag P 75 #[bv,lv,.agg #[vi k.bf,vi k.by_]] H fun v H'=>Inc H H'∧∃ bb,Own H H' 3 v (Wab b l k) bb:=by
 have hs:∀ g,P.still g=false:=Loud.loud
 obtain⟨pv,cv,rfl,hp,hc⟩:=hb
 obtain⟨o1,o2⟩:=ho
 obtain⟨k1,k2⟩:=hk
 refine IsN.m (isn c75) (args:=[.agg #[vi b.op,vi b.sl,pv,cv],lv,.agg #[vi k.bf,vi k.by_]]) rfl ?_
 unfold n75
 refine wkT ?_
 refine ZaP (α:=Value×Option Nat) l.length (fun j s H'=>Inc H H'∧Own H H' 3 s.1 ((Wab b l k).take j) s.2) (fun j s=>[(1,lv),(3,vi 0),(5,vi 0),(7,s.1),(8,vi j)]) (fun _ _=>[(3,[vi b.op,vi b.sl,pv,cv]),(5,[vi k.bf,vi k.by_])]) (.slice none 0 0,none) ⟨.refl H,.nil _ _ _⟩ ⟨rfl,rfl,rfl,rfl,rfl,trivial⟩ ⟨rfl,rfl,trivial⟩ ?_
 rintro j ⟨v7,b7⟩ H1 hj ⟨hi1,o7⟩
 simp only at o7
 have hlen:(Wab b l k).length=l.length:=by simp[Wab]
 refine wkT ?_
 refine Zav (hlv.inc hi1) rfl ?_
 refine wkT ?_
 refine wiT (fun h1=>?_) (fun h1=>?_)
 ·have hj':j<l.length:=by omega
  obtain⟨m1,m2⟩:=hsm l[j] (List.getElem_mem hj')
  have htk:(Wab b l k).take (j+1)=(Wab b l k).take j++[b.op-l[j]+if k.bf<=j then k.by_ else 0]:=by
   rw[List.take_succ_eq_append_getElem (by omega)]
   simp[Wab,List.getD_eq_getElem?_getD,hj']
  have htl:((Wab b l k).take j).length<=j:=by rw[List.length_take];omega
  refine wkT ?_
  refine ZaE (hlv.inc hi1) rfl rfl rfl (i:=j) hj' fun a ha=>?_
  refine wkT ?_
  refine Zaf (hs _) rfl ha ?_
  refine wkT ?_
  refine wiT (fun h2=>?_) (fun h2=>?_)
  ·rw[if_pos h2]at htk
   refine wkT ?_
   refine Zat (cs:=[vi (b.op-l[j]+k.by_)]) (hs _) rfl fun r1 hr1=>?_
   refine wkT ?_
   refine ZbW (l':=[b.op-l[j]+k.by_]) (und u34) (und u34) (tif t3) rfl (by decide) (hi1.trans (Zaj hr1)) (o7.ins hr1) WaZ rfl (by simp;omega) (by omega) rfl rfl (hs _) fun v8 H3 b8 g1 g2 g3=>?_
   rw[<-htk]at g2
   refine wkT ?_
   exact⟨(⟨j+1,by omega⟩,(v8,b8)),Nat.sub_lt_sub_left (by omega) (Nat.lt_succ_self j),⟨g1,g2⟩,⟨rfl,rfl,rfl,rfl,rfl,trivial⟩,⟨rfl,rfl,trivial⟩,rfl⟩
  ·rw[if_neg h2,Int.add_zero]at htk
   refine wkT ?_
   refine Zat (cs:=[vi (b.op-l[j])]) (hs _) rfl fun r1 hr1=>?_
   refine wkT ?_
   refine ZbW (l':=[b.op-l[j]]) (und u34) (und u34) (tif t3) rfl (by decide) (hi1.trans (Zaj hr1)) (o7.ins hr1) WaZ rfl (by simp;omega) (by omega) rfl rfl (hs _) fun v8 H3 b8 g1 g2 g3=>?_
   rw[<-htk]at g2
   refine wkT ?_
   exact⟨(⟨j+1,by omega⟩,(v8,b8)),Nat.sub_lt_sub_left (by omega) (Nat.lt_succ_self j),⟨g1,g2⟩,⟨rfl,rfl,rfl,rfl,rfl,trivial⟩,⟨rfl,rfl,trivial⟩,rfl⟩
 ·have:j=l.length:=by omega
  subst this
  rw[List.take_of_length_le (by omega)]at o7
  refine wkT ?_
  exact⟨hi1,b7,o7⟩
theorem Wbf {bv gv:Value}{b:Bk}{g:List Int}(hb:BkAt H bv b)(hgv:SlAt H gv g)(hl2:b.cks.length<=1000000)(hck:∀ c∈b.cks,0<=c.p∧c.p<g.length) :
  LL.Zag P 142 #[bv,gv] H fun v H'=>H=H'∧v=vb (WaN b g):=by
 have hs:∀ g,P.still g=false:=Loud.loud
 obtain⟨pv,cv,rfl,hp,hc⟩:=hb
 refine IsN.m (isn c142) (args:=[.agg #[vi b.op,vi b.sl,pv,cv],gv]) rfl ?_
 unfold n142
 refine wkT ?_
 refine ZaX b.cks.length (fun j H'=>H=H'∧((b.cks.take j).all fun c=>decide (c.gl<=g.getD c.p.toNat 0∧g.getD c.p.toNat 0<=c.gh))=true) (fun j=>[(1,gv),(2,vi 0),(5,vi j)]) (fun _=>[(2,[vi b.op,vi b.sl,pv,cv])]) ⟨rfl,rfl⟩ ⟨rfl,rfl,rfl,trivial⟩ ⟨rfl,trivial⟩ ?_
 rintro j _ hj ⟨rfl,hall⟩
 refine wkT ?_
 refine Zav hc rfl ?_
 refine wkT ?_
 refine wiT (fun h1=>?_) (fun h1=>?_)
 ·have hj':j<b.cks.length:=by omega
  obtain⟨c1,c2⟩:=hck b.cks[j] (List.getElem_mem hj')
  have hat:=ZkE (f:=fun c:SCk=>decide (c.gl<=g.getD c.p.toNat 0∧g.getD c.p.toNat 0<=c.gh)) hj'
  have hno:=all_no (f:=fun c:SCk=>decide (c.gl<=g.getD c.p.toNat 0∧g.getD c.p.toNat 0<=c.gh)) hj'
  obtain⟨p,hp2⟩:∃ p:Nat,b.cks[j].p=p:=⟨b.cks[j].p.toNat,by omega⟩
  have hpl:p<g.length:=by omega
  refine wkT ?_
  refine ZaE hc rfl rfl rfl (i:=j) hj' fun a ha=>?_
  refine wkT ?_
  refine Zao (hs _) rfl ha rfl ?_
  refine wkT ?_
  refine ZaE hgv rfl (by rw[<-hp2];rfl) rfl (i:=p) hpl fun q hq=>?_
  refine wkT ?_
  refine Zaf (hs _) rfl hq ?_
  refine wkT ?_
  refine Zab (vs:=[vi g[p],vi b.cks[j].gl,vi b.cks[j].gh]) rfl (Zm6 _ _ _) ?_
  rintro v _ ⟨rfl,rfl⟩
  have hgd:g.getD b.cks[j].p.toNat 0=g[p]:=by rw[hp2,Int.toNat_natCast];exact Zbd hpl _
  simp only[hgd]at hat hno
  refine wkT ?_
  refine wiT (fun h2=>?_) (fun h2=>?_)
  ·refine wkT ?_
   exact⟨rfl,by rw[WaN,hno (decide_eq_false h2)];rfl⟩
  ·refine wkT ?_
   exact⟨⟨j+1,by omega⟩,Nat.sub_lt_sub_left (by omega) (Nat.lt_succ_self j),⟨rfl,by rw[hat,hall,decide_eq_true (by omega)];rfl⟩,⟨rfl,rfl,rfl,trivial⟩,⟨rfl,trivial⟩,rfl⟩
 ·have:j=b.cks.length:=by omega
  subst this
  rw[List.take_length]at hall
  refine wkT ?_
  exact⟨rfl,by rw[WaN,hall];rfl⟩
end
end Go.Proofs
end
