/- proofs about Leango given: part Bo0; made by a program out of the longer texts in wip -/
import Derived.Test.YtamdhefhhdgjbaaGreatDoorP44
set_option linter.all false
section
open Go Go.LL Go.Z
namespace Go.Proofs
def n22:Zai:=(sq [o 1 (.lbox 1 [1] (t 0)),mi 2 0,mi 3 0] (sq [l 9 1 4 1,o 10 (.call 93 [(t 9),k1]),m 8 10,x 11 8 0,x 12 8 1,m 4 11,m 5 12] (.seq (sq [m 13 5,bk 14 .neq 13 0] (.cond (t 14) (sq [m 15 5,mi 2 0,m 3 15] .ret) .skip)) (sq [mi 6 0] (.seq (sq [mi 7 0] (.block 0 (.loop (.seq (sq [m 16 7,m 17 4,le 18 17,b 19 .lss 16 18] (.cond (t 19) .skip (.exit 0))) (.seq (.block 1 (sq [m 22 4,m 23 7,ia 24 4 22 23,o 25 (.fadr 1 (t 24)),o 26 (.fadr 1 (t 25)),ld 27 26,bk 28 .neq 27 0] (.cond (t 28) (.ops [m 29 6,bk 30 .add 29 1,m 6 30]) .skip))) (.ops [m 20 7,bk 21 .add 20 1,m 7 21])))))) (sq [m 31 6,m 32 4,le 33 32,c2 34 54 31 33,m 2 34,mi 3 0] .ret))))))
def r22:List NRes:=[(.slot 2),(.slot 3)]
theorem c22:IsN Tryz.prog 22 1 n22 r22:=isq [(1,1)] Tryz.func22
def n27:Zai:=(sq [o 1 (.lbox 1 [1] (t 0)),o 2 (.mov (.const s0)),mi 3 0] (sq [l 12 1 4 1,o 13 (.call 93 [(t 12),k1]),m 11 13,x 14 11 0,x 15 11 1,m 4 14,m 5 15] (.seq (sq [m 16 5,bk 17 .neq 16 0] (.cond (t 17) (sq [m 18 5,o 2 (.mov (.const s0)),m 3 18] .ret) .skip)) (sq [o 6 (.mov (.const s0))] (sq [l 19 1 4 1,c1 20 56 19,m 7 20] (.seq (sq [mi 8 0] (.block 0 (.loop (.seq (sq [m 21 8,m 22 7,le 23 22,b 24 .lss 21 23] (.cond (t 24) .skip (.exit 0))) (.seq (.block 1 (sq [m0 9] (.seq (sq [mi 10 0] (.block 2 (.loop (.seq (sq [m 27 10,m 28 4,le 29 28,b 30 .lss 27 29] (.cond (t 30) .skip (.exit 2))) (.seq (.block 3 (.drawn [(m 33 9,none),(m 34 33,none),(mf 34 35 4,none),(mf 34 36 10,none),(gf 34 37 (.iadr 4 (t 35) (t 36)),none),(gf 34 38 (.fadr 1 (t 37)),none),(gf 34 39 (.ld (some 2) (t 38)),none),(mf 34 40 7,none),(mf 34 41 8,none),(gf 34 42 (.iadr 2 (t 40) (t 41)),none),(gf 34 43 (.ld (some 2) (t 42)),none),(gf 34 44 (.pur (.binOp .eql 70 (t 39) (t 43) 70) 4),none),(po 45 34 44,none),(m 9 45,none)])) (.ops [m 31 10,bk 32 .add 31 1,m 10 32])))))) (sq [m 46 9] (.cond (t 46) (.ops [m 47 6,m 48 7,m 49 8,ia 50 2 48 49,lm 51 2 50,o 52 (.buildS 70 1 [z0,z0] [(0,(2,(t 51)))]),o 53 (.raw (.call (.mk (.builtin .append) #[(t 47),(t 52)] #[38,38])) 38),m 6 53]) .skip))))) (.ops [m 25 8,bk 26 .add 25 1,m 8 26])))))) (sq [m 54 6,m 2 54,mi 3 0] .ret)))))))
def r27:List NRes:=[(.slot 2),(.slot 3)]
theorem c27:IsN Tryz.prog 27 1 n27 r27:=isq [(1,1)] Tryz.func27
def n57:Zai:=(sq [o 2 (.mov (.const s0))] (sq [o 3 (.mov (.const s0))] (.seq (sq [mi 4 0] (.block 0 (.loop (.seq (sq [m 6 4,m 7 0,le 8 7,b 9 .lss 6 8] (.cond (t 9) .skip (.exit 0))) (.seq (.block 1 (sq [mi 5 0] (.seq (.block 2 (.loop (.seq (.seq (.drawn [(m 12 5,none),(m 13 3,none),(le 14 13,none),(b 15 .lss 12 14,none),(m 16 15,none),(mt 16 17 3,none),(mt 16 18 5,none),(gt 16 19 (.iadr 1 (t 17) (t 18)),none),(gt 16 20 (.ld none (t 19)),none),(mt 16 21 0,none),(mt 16 22 4,none),(gt 16 23 (.iadr 1 (t 21) (t 22)),none),(gt 16 24 (.ld none (t 23)),none),(gt 16 25 (.bin .lss (t 20) (t 24)),none),(pa 26 16 25,none)]) (.cond (t 26) .skip (.exit 2))) (.block 3 (.ops [m 27 5,bk 28 .add 27 1,m 5 28]))))) (.seq (.drawn [(m 29 5,none),(m 30 3,none),(le 31 30,none),(b 32 .eql 29 31,none),(m 33 32,none),(mf 33 34 3,none),(mf 33 35 5,none),(gf 33 36 (.iadr 1 (t 34) (t 35)),none),(gf 33 37 (.ld none (t 36)),none),(mf 33 38 0,none),(mf 33 39 4,none),(gf 33 40 (.iadr 1 (t 38) (t 39)),none),(gf 33 41 (.ld none (t 40)),none),(gf 33 42 (.bin .neq (t 37) (t 41)),none),(po 43 33 42,none)]) (.cond (t 43) (.drawn [(m 44 3,none),(m 45 5,none),(o 46 (.pur (.slice 34 (t 44) none (some (t 45)) none) 34),none),(m 47 0,none),(m 48 4,none),(ia 49 1 47 48,none),(ld 50 49,none),(m 52 3,none),(m 53 5,none),(o 54 (.pur (.slice 34 (t 52) (some (t 53)) none none) 34),none),(o 51 (.buildS 3 1 [z0] [(0,(1,(t 50)))]),(some false)),(o 55 (.raw (.call (.mk (.builtin .append) #[(t 51),(t 54)] #[34,34])) 34),(some false)),(o 56 (.raw (.call (.mk (.builtin .append) #[(t 46),(t 55)] #[34,34])) 34),none),(m 3 56,none)]) .skip))))) (.ops [m 10 4,bk 11 .add 10 1,m 4 11])))))) (sq [m 57 3,m 2 57] .ret))))
def r57:List NRes:=[(.slot 2)]
theorem c57:IsN Tryz.prog 57 1 n57 r57:=isq [] Tryz.func57
def n142:Zai:=(sq [o 2 (.lbox 2 [2,8,14] (t 0)),m0 4] (.seq (sq [mi 5 0] (.block 0 (.loop (.seq (sq [m 7 5,f 8 3 2,ln 9 2 8,le 10 9,b 11 .lss 7 10] (.cond (t 11) .skip (.exit 0))) (.seq (.block 1 (sq [f 14 3 2,ln 15 2 14,m 16 5,ia 17 3 15 16,lm 18 3 17,o 6 (.lzero 6 [6,20,24,25,27,28] [z0,z0,z0]),ls 6 3 6 18] (.seq (.drawn [(m 19 1,none),(f 20 0 6,none),(ln 21 6 20,none),(ia 22 1 19 21,none),(ld 23 22,none),(f 24 1 6,none),(f 25 0 24,none),(ln 26 6 25,none),(f 27 1 6,none),(f 28 1 27,none),(ln 29 6 28,none),(c3 30 53 23 26 29,none),(o 31 (.not (t 30)),none)]) (.cond (t 31) (sq [m0 4] .ret) .skip)))) (.ops [m 12 5,bk 13 .add 12 1,m 5 13])))))) (sq [m1 4] .ret)))
def r142:List NRes:=[(.slot 4)]
theorem c142:IsN Tryz.prog 142 2 n142 r142:=isq [(2,2),(6,6),(8,2),(14,2),(20,6),(24,6),(25,6),(27,6),(28,6)] Tryz.func142
end Go.Proofs
end
section
open Go Go.LL Go.Z
namespace Go.Proofs
def n88:Zai:=(sq [o 1 (.lbox 1 [1] (t 0)),o 2 (.mov (.const s0))] (sq [o 3 (.mov (.const s0))] (sq [l 9 1 4 1,c1 10 145 9,m 4 10] (sq [o 11 (.build [z0,z0] []),o 12 (.buildS 70 1 [z0,z0] [(0,(2,(t 11)))]),l 13 1 4 1,c1 14 56 13,o 15 (.raw (.call (.mk (.builtin .append) #[(t 12),(t 14)] #[38,38])) 38),m 5 15] (.seq (sq [mi 6 0] (.block 0 (.loop (.seq (sq [m 16 6,m 17 4,le 18 17,b 19 .lss 16 18] (.cond (t 19) .skip (.exit 0))) (.seq (.block 1 (sq [mi 7 0] (.block 2 (.loop (.seq (sq [m 22 7,m 23 5,le 24 23,b 25 .lss 22 24] (.cond (t 25) .skip (.exit 2))) (.seq (.block 3 (.seq (.drawn [(l 28 1 4 1,none),(m 29 4,none),(m 30 6,none),(ia 31 1 29 30,none),(ld 32 31,none),(m 33 5,none),(m 34 7,none),(ia 35 2 33 34,none),(lm 36 2 35,none),(c3 37 75 28 32 36,none),(m 8 37,none)]) (sq [l 38 1 4 1,m 39 8,c2 40 142 38 39] (.cond (t 40) (.drawn [(m 41 3,none),(m 42 4,none),(m 43 6,none),(ia 44 1 42 43,none),(ld 45 44,none),(m 46 5,none),(m 47 7,none),(ia 48 2 46 47,none),(lm 49 2 48,none),(m 50 8,none),(o 51 (.build [s0,z0,z0,s0] [(0,(1,(t 45))),(1,(2,(t 49))),(3,(1,(t 50)))]),none),(o 52 (.buildS 125 1 [s0,z0,z0,s0] [(0,(4,(t 51)))]),(some false)),(o 53 (.raw (.call (.mk (.builtin .append) #[(t 41),(t 52)] #[108,108])) 108),none),(m 3 53,none)]) .skip)))) (.ops [m 26 7,bk 27 .add 26 1,m 7 27]))))))) (.ops [m 20 6,bk 21 .add 20 1,m 6 21])))))) (sq [m 54 3,m 2 54] .ret))))))
def r88:List NRes:=[(.slot 2)]
theorem c88:IsN Tryz.prog 88 1 n88 r88:=isq [(1,1)] Tryz.func88
def n93:Zai:=(sq [o 2 (.lbox 2 [2] (t 0)),o 4 (.mov (.const s0)),mi 5 0] (.seq (sq [l 8 2 4 2,c1 9 64 8,m 6 9] (sq [m 10 6,bk 11 .neq 10 0] (.cond (t 11) (sq [m 12 6,o 4 (.mov (.const s0)),m 5 12] .ret) .skip))) (.seq (sq [m 13 1,o 14 (.not (t 13))] (.cond (t 14) (sq [o 4 (.mov (.const s0)),mi 5 6] .ret) .skip)) (sq [l 15 2 4 2,c1 16 88 15,m 7 16] (.seq (sq [m 17 7,le 18 17,bk 19 .eql 18 0] (.cond (t 19) (sq [o 4 (.mov (.const s0)),mi 5 9] .ret) .skip)) (sq [m 20 7,m 4 20,mi 5 0] .ret))))))
def r93:List NRes:=[(.slot 4),(.slot 5)]
theorem c93:IsN Tryz.prog 93 2 n93 r93:=isq [(2,2)] Tryz.func93
end Go.Proofs
end
section
open Go Go.LL Go.Z
namespace Go.Proofs
def n24:Zai:=(sq [o 1 (.lbox 1 [1] (t 0)),o 2 (.mov (.const s0)),mi 3 0] (sq [l 9 1 4 1,o 10 (.call 93 [(t 9),k1]),m 8 10,x 11 8 0,x 12 8 1,m 4 11,m 5 12] (sq [o 6 (.mov (.const s0))] (.seq (sq [mi 7 0] (.block 0 (.loop (.seq (sq [m 13 7,m 14 4,le 15 14,b 16 .lss 13 15] (.cond (t 16) .skip (.exit 0))) (.seq (.block 1 (sq [m 19 4,m 20 7,ia 21 4 19 20,o 22 (.fadr 1 (t 21)),o 23 (.fadr 1 (t 22)),ld 24 23,bk 25 .neq 24 0] (.cond (t 25) (.ops [m 26 6,m 27 4,m 28 7,ia 29 4 27 28,o 30 (.fadr 1 (t 29)),o 31 (.fadr 0 (t 30)),ld 32 31,o 33 (.buildS 3 1 [z0] [(0,(1,(t 32)))]),o 34 (.raw (.call (.mk (.builtin .append) #[(t 26),(t 33)] #[34,34])) 34),m 6 34]) .skip))) (.ops [m 17 7,bk 18 .add 17 1,m 7 18])))))) (sq [m 35 6,c1 36 57 35,m 37 5,m 2 36,m 3 37] .ret)))))
def r24:List NRes:=[(.slot 2),(.slot 3)]
theorem c24:IsN Tryz.prog 24 1 n24 r24:=isq [(1,1)] Tryz.func24
def n54:Zai:=(sq [mi 4 0] (.seq (sq [m 5 0,bk 6 .eql 5 0] (.cond (t 6) (sq [mi 4 2] .ret) .skip)) (.seq (sq [m 7 0,m 8 1,b 9 .eql 7 8] (.cond (t 9) (sq [mi 4 1] .ret) .skip)) (sq [mi 4 0] .ret))))
def r54:List NRes:=[(.slot 4)]
theorem c54:IsN Tryz.prog 54 2 n54 r54:=isq [] Tryz.func54
end Go.Proofs
end
section
open Go Go.LL Go.Z
namespace Go.Proofs
def n20:Zai:=(sq [o 1 (.lbox 1 [1] (t 0)),mi 2 0,mi 3 0] (.seq (sq [l 5 1 4 1,c1 6 64 5,m 4 6] (sq [m 7 4,bk 8 .neq 7 0] (.cond (t 8) (sq [m 9 4,mi 2 0,m 3 9] .ret) .skip))) (sq [l 10 1 4 1,c1 11 88 10,le 12 11,m 2 12,mi 3 0] .ret)))
def r20:List NRes:=[(.slot 2),(.slot 3)]
theorem c20:IsN Tryz.prog 20 1 n20 r20:=isq [(1,1)] Tryz.func20
def n30:Zai:=(sq [o 2 (.lbox 2 [2] (t 0)),o 4 (.mov (.const s0)),mi 5 0] (.seq (.drawn [(l 11 2 4 2,none),(l 12 2 4 2,none),(m 13 1,none),(c2 14 102 12 13,(some false)),(c2 15 93 11 14,none),(m 10 15,none),(x 16 10 0,none),(x 17 10 1,none),(m 6 16,none),(m 7 17,none)]) (sq [o 8 (.mov (.const s0))] (.seq (sq [mi 9 0] (.block 0 (.loop (.seq (sq [m 18 9,m 19 6,le 20 19,b 21 .lss 18 20] (.cond (t 21) .skip (.exit 0))) (.seq (.block 1 (.ops [m 24 8,m 25 6,m 26 9,ia 27 4 25 26,o 28 (.fadr 3 (t 27)),ld 29 28,m 30 1,ia 31 1 29 30,ld 32 31,o 33 (.buildS 3 1 [z0] [(0,(1,(t 32)))]),o 34 (.raw (.call (.mk (.builtin .append) #[(t 24),(t 33)] #[34,34])) 34),m 8 34])) (.ops [m 22 9,bk 23 .add 22 1,m 9 23])))))) (sq [m 35 8,c1 36 57 35,m 37 7,m 4 36,m 5 37] .ret)))))
def r30:List NRes:=[(.slot 4),(.slot 5)]
theorem c30:IsN Tryz.prog 30 2 n30 r30:=isq [(2,2)] Tryz.func30
def n75:Zai:=(sq [o 3 (.lbox 3 [3,16] (t 0)),o 5 (.lbox 5 [5,24,28] (t 2)),o 6 (.mov (.const s0))] (sq [o 7 (.mov (.const s0))] (.seq (sq [mi 8 0] (.block 0 (.loop (.seq (sq [m 10 8,m 11 1,le 12 11,b 13 .lss 10 12] (.cond (t 13) .skip (.exit 0))) (.seq (.block 1 (.seq (.drawn [(f 16 0 3,none),(ln 17 3 16,none),(m 18 1,none),(m 19 8,none),(ia 20 1 18 19,none),(ld 21 20,none),(b 22 .sub 17 21,none),(m 9 22,none)]) (.seq (sq [m 23 8,f 24 0 5,ln 25 5 24,b 26 .geq 23 25] (.cond (t 26) (.ops [m 27 9,f 28 1 5,ln 29 5 28,b 30 .add 27 29,m 9 30]) .skip)) (.ops [m 31 7,m 32 9,o 33 (.buildS 3 1 [z0] [(0,(1,(t 32)))]),o 34 (.raw (.call (.mk (.builtin .append) #[(t 31),(t 33)] #[34,34])) 34),m 7 34])))) (.ops [m 14 8,bk 15 .add 14 1,m 8 15])))))) (sq [m 35 7,m 6 35] .ret))))
def r75:List NRes:=[(.slot 6)]
theorem c75:IsN Tryz.prog 75 3 n75 r75:=isq [(3,3),(5,5),(16,3),(24,5),(28,5)] Tryz.func75
def n145:Zai:=(sq [o 1 (.lbox 1 [1,10,22,30] (t 0)),o 2 (.mov (.const s0))] (sq [o 8 (.buildS 34 1 [s0] [(0,(1,(.const s0)))]),m 3 8] (.seq (sq [mi 4 0] (.block 0 (.loop (.seq (sq [m 9 4,f 10 2 1,ln 11 1 10,le 12 11,b 13 .lss 9 12] (.cond (t 13) .skip (.exit 0))) (.seq (.block 1 (sq [o 5 (.mov (.const s0))] (.seq (sq [mi 6 0] (.block 2 (.loop (.seq (sq [m 16 6,m 17 3,le 18 17,b 19 .lss 16 18] (.cond (t 19) .skip (.exit 2))) (.seq (.block 3 (sq [f 22 2 1,ln 23 1 22,m 24 4,ia 25 5 23 24,o 26 (.fadr 0 (t 25)),o 27 (.fadr 0 (t 26)),ld 28 27,m 7 28] (.block 4 (.loop (.seq (sq [m 29 7,f 30 2 1,ln 31 1 30,m 32 4,ia 33 5 31 32,o 34 (.fadr 0 (t 33)),o 35 (.fadr 1 (t 34)),ld 36 35,b 37 .leq 29 36] (.cond (t 37) .skip (.exit 4))) (.seq (.block 5 (.ops [m 40 5,o 41 (.raw (.buildSlice 34 0 #[]) 34),m 42 3,m 43 6,ia 44 1 42 43,ld 45 44,o 46 (.raw (.call (.mk (.builtin .append) #[(t 41),(t 45)] #[34,34])) 34),m 47 7,o 48 (.buildS 3 1 [z0] [(0,(1,(t 47)))]),o 49 (.raw (.call (.mk (.builtin .append) #[(t 46),(t 48)] #[34,34])) 34),o 50 (.buildS 34 1 [s0] [(0,(1,(t 49)))]),o 51 (.raw (.call (.mk (.builtin .append) #[(t 40),(t 50)] #[157,157])) 157),m 5 51])) (.ops [m 38 7,bk 39 .add 38 1,m 7 39]))))))) (.ops [m 20 6,bk 21 .add 20 1,m 6 21])))))) (.ops [m 52 5,m 3 52])))) (.ops [m 14 4,bk 15 .add 14 1,m 4 15])))))) (sq [m 53 3,m 2 53] .ret))))
def r145:List NRes:=[(.slot 2)]
theorem c145:IsN Tryz.prog 145 1 n145 r145:=isq [(1,1),(10,1),(22,1),(30,1)] Tryz.func145
end Go.Proofs
end
section
open Go Go.LL Go.Z
namespace Go.Proofs
def n56:Zai:=(sq [o 1 (.lbox 1 [1,7,13,17] (t 0)),o 2 (.mov (.const s0))] (sq [o 3 (.mov (.const s0))] (.seq (sq [mi 4 1] (.block 0 (.loop (.seq (sq [m 6 4,f 7 2 1,ln 8 1 7,le 9 8,b 10 .lss 6 9] (.cond (t 10) .skip (.exit 0))) (.seq (.block 1 (sq [f 13 1 1,ln 14 1 13,o 15 (.raw (.unOp .neg 3 (t 14)) 3),m 5 15] (.block 2 (.loop (.seq (sq [m 16 5,f 17 1 1,ln 18 1 17,b 19 .leq 16 18] (.cond (t 19) .skip (.exit 2))) (.seq (.block 3 (sq [m 22 5,bk 23 .neq 22 0] (.cond (t 23) (.ops [m 24 3,m 25 4,m 26 5,o 27 (.build [z0,z0] [(0,(1,(t 25))),(1,(1,(t 26)))]),o 28 (.buildS 70 1 [z0,z0] [(0,(2,(t 27)))]),o 29 (.raw (.call (.mk (.builtin .append) #[(t 24),(t 28)] #[38,38])) 38),m 3 29]) .skip))) (.ops [m 20 5,bk 21 .add 20 1,m 5 21]))))))) (.ops [m 11 4,bk 12 .add 11 1,m 4 12])))))) (sq [m 30 3,m 2 30] .ret))))
def r56:List NRes:=[(.slot 2)]
theorem c56:IsN Tryz.prog 56 1 n56 r56:=isq [(1,1),(7,1),(13,1),(17,1)] Tryz.func56
end Go.Proofs
end
section
open Go Go.LL
namespace Go.Proofs
theorem Wa0 (l:List Slip):((encs l).all Value.isOne)=true:=Zh3 (fun _=>rfl) l
section
variable  {P:Prg}[Tz P][Loud P]{H:Hp}
set_option maxHeartbeats 1000000
end
end Go.Proofs
end
section
open Go Go.LL Go.Z
namespace Go.Proofs
def n3:Zai:=(sq [o 2 (.lbox 2 [2] (t 0)),m0 4] (.seq (sq [l 15 2 4 2,c1 16 17 15] (.cond (t 16) (sq [c0 17 18,m 4 17] .ret) .skip)) (sq [l 19 2 4 2,c1 20 19 19,m 18 20,x 21 18 0,x 22 18 1,m 5 21,m 6 22] (sq [l 24 2 4 2,c1 25 20 24,m 23 25,x 26 23 0,x 27 23 1,m 7 26,m 8 27] (.seq (sq [m 28 5,m 29 7,b 30 .neq 28 29,m 31 30,mf 31 32 6,mf 31 33 8,gf 31 34 (.bin .neq (t 32) (t 33)),po 35 31 34] (.cond (t 35) (sq [m0 4] .ret) .skip)) (sq [l 37 2 4 2,c1 38 21 37,m 36 38,x 39 36 0,x 40 36 1,m 9 39,m 6 40] (sq [l 42 2 4 2,c1 43 22 42,m 41 43,x 44 41 0,x 45 41 1,m 10 44,m 8 45] (.seq (sq [m 46 9,m 47 10,b 48 .neq 46 47,m 49 48,mf 49 50 6,mf 49 51 8,gf 49 52 (.bin .neq (t 50) (t 51)),po 53 49 52] (.cond (t 53) (sq [m0 4] .ret) .skip)) (sq [l 55 2 4 2,c1 56 23 55,m 54 56,x 57 54 0,x 58 54 1,m 11 57,m 6 58] (sq [l 60 2 4 2,c1 61 24 60,m 59 61,x 62 59 0,x 63 59 1,m 12 62,m 8 63] (.seq (sq [m 64 11,m 65 12,c2 66 25 64 65,o 67 (.not (t 66)),m 68 67,mf 68 69 6,mf 68 70 8,gf 68 71 (.bin .neq (t 69) (t 70)),po 72 68 71] (.cond (t 72) (sq [m0 4] .ret) .skip)) (sq [l 74 2 4 2,c1 75 26 74,m 73 75,x 76 73 0,x 77 73 1,m 13 76,m 6 77] (sq [l 79 2 4 2,c1 80 27 79,m 78 80,x 81 78 0,x 82 78 1,m 14 81,m 8 82] (.seq (sq [m 83 13,m 84 14,c2 85 28 83 84,o 86 (.not (t 85)),m 87 86,mf 87 88 6,mf 87 89 8,gf 87 90 (.bin .neq (t 88) (t 89)),po 91 87 90] (.cond (t 91) (sq [m0 4] .ret) .skip)) (sq [l 93 2 4 2,m 94 1,c2 95 29 93 94,m 92 95,x 96 92 0,x 97 92 1,m 11 96,m 6 97] (sq [l 99 2 4 2,m 100 1,c2 101 30 99 100,m 98 101,x 102 98 0,x 103 98 1,m 12 102,m 8 103] (sq [m 104 11,m 105 12,c2 106 25 104 105,m 107 106,mt 107 108 6,mt 107 109 8,gt 107 110 (.bin .eql (t 108) (t 109)),pa 111 107 110,m 112 111,gt 112 113 (.call 18 []),pa 114 112 113,m 4 114] .ret)))))))))))))))))
def r3:List NRes:=[(.slot 4)]
theorem c3:IsN Tryz.prog 3 2 n3 r3:=isq [(2,2)] Tryz.func3
end Go.Proofs
end
section
open Go Go.LL
namespace Go.Proofs
section
variable  {P:Prg}[Tz P][Loud P]{H:Hp}
set_option maxHeartbeats 1000000
theorem Told_ok (k n:Nat):LL.Zag P 54 #[vi k,vi n] H fun v H'=>H=H'∧v=vi (Zhu k n):=by
 refine IsN.m (isn c54) (args:=[vi k,vi n]) rfl ?_
 unfold n54
 refine wkT ?_
 refine wiT (fun h1=>?_) (fun h1=>?_)
 ·refine wkT ?_
  exact⟨rfl,by rw[Zhu,if_pos (by omega)];rfl⟩
 ·refine wkT ?_
  refine wiT (fun h2=>?_) (fun h2=>?_)
  ·refine wkT ?_
   exact⟨rfl,by rw[Zhu,if_neg (by omega),if_pos (by omega)];rfl⟩
  ·refine wkT ?_
   exact⟨rfl,by rw[Zhu,if_neg (by omega),if_neg (by omega)];rfl⟩
end
end Go.Proofs
end
section
open Go Go.LL
namespace Go.Proofs
theorem t38e:Tryz.prog.underlying 38=some (.slice 70):=by kernel_rfl
def Wab (b:Bk)(l:List Int)(k:Slip):List Int:=(List.range l.length).map fun i=>b.op-l.getD i 0+if k.bf<=i then k.by_ else 0
def WaG (b:Bk)(g:List Int):Bool:=b.cks.all fun c=>decide (c.gl<=g.getD c.p.toNat 0∧g.getD c.p.toNat 0<=c.gh)
section
variable  {P:Prg}[Tz P][Loud P]{H:Hp}
set_option maxHeartbeats 2000000
set_option maxRecDepth 20000
theorem WaF {H:Hp}{r:Nat}{k:Slip}:SlAt (H.ins r (.cells [vi k.bf,vi k.by_].toArray 70)) (.slice (some ⟨r,0,none⟩) 1 1) [k]:=Za4 (l:=[k])
theorem Wav {bv:Value}{b:Bk}(hb:BkAt H bv b)(h0:0<=b.sl)(h1:b.sl<=100)(h2:b.pts.length<=100)(h2':1<=b.pts.length) :
  LL.Zag P 56 #[bv] H fun v H'=>Inc H H'∧∃ bb,Own H H' 70 v ((ZaC b).drop 1) bb:=by
 have hs:∀ g,P.still g=false:=Loud.loud
 obtain⟨pv,cv,rfl,hp,hc⟩:=hb
 obtain⟨Ap,cp,rfl,hp'⟩:=id hp
 obtain⟨Ac,cc,rfl,hc'⟩:=id hc
 obtain⟨sl,hsl⟩:∃ sl:Nat,b.sl=sl:=⟨b.sl.toNat,by omega⟩
 have hdr:(ZaC b).drop 1=outerR b.pts.length sl (b.pts.length-1):=by rw[ZaC,hsl];rfl
 rw[hdr]
 have hol:=Zis b.pts.length sl
 refine IsN.m (isn c56) (args:=[.agg #[vi b.op,vi b.sl,.slice Ap b.pts.length cp,.slice Ac b.cks.length cc]]) rfl ?_
 unfold n56
 refine wkT ?_
 refine ZaP (α:=Value×List Slip×Option Nat) (b.pts.length-1) (fun j s H'=>Inc H H'∧Own H H' 70 s.1 s.2.1 s.2.2∧s.2.1++outerR b.pts.length sl (b.pts.length-1-j)=outerR b.pts.length sl (b.pts.length-1)∧s.2.1.length<=j * 300)
  (fun j s=>[(1,vi 0),(3,s.1),(4,vi (j+1:Nat))]) (fun _ _=>[(1,[vi b.op,vi b.sl,.slice Ap b.pts.length cp,.slice Ac b.cks.length cc])]) (.slice none 0 0,[],none) ⟨.refl H,.nil _ _ _,rfl,by simp⟩ ⟨rfl,rfl,rfl,trivial⟩ ⟨rfl,trivial⟩ ?_
 rintro j ⟨v3,l3,b3⟩ H1 hj ⟨hi1,o3,e3,len3⟩
 simp only at o3 e3 len3
 refine wkT ?_
 refine wiT (fun h3=>?_) (fun h3=>?_)
 ·have hj':j<b.pts.length-1:=by omega
  refine wkT ?_
  refine om_neg rfl ⟨by omega,by omega⟩ ?_
  refine wkT ?_
  have e1:b.pts.length-1-j=(b.pts.length-1-(j+1))+1:=by omega
  rw[e1,outerR]at e3
  have e2:((b.pts.length:Int)-((b.pts.length-1-(j+1))+1:Nat))=(j+1:Nat):=by omega
  rw[e2]at e3
  refine ZaP (α:=Value×List Slip×Option Nat) (2 * sl+1) (fun k s H'=>Inc H H'∧Own H H' 70 s.1 s.2.1 s.2.2∧s.2.1++(innerR (j+1:Nat) sl (2 * sl+1-k)++outerR b.pts.length sl (b.pts.length-1-(j+1)))=outerR b.pts.length sl (b.pts.length-1)∧s.2.1.length<=j * 300+k)
   (fun k s=>[(1,vi 0),(3,s.1),(4,vi (j+1:Nat)),(5,vi (-b.sl+k))]) (fun _ _=>[(1,[vi b.op,vi b.sl,.slice Ap b.pts.length cp,.slice Ac b.cks.length cc])]) (v3,l3,b3) ⟨hi1,o3,e3,by show l3.length<=j * 300+0;omega⟩ ⟨rfl,rfl,rfl,by simp[NSt.set],trivial⟩ ⟨rfl,trivial⟩ ?_
  rintro k ⟨v4,l4,b4⟩ H2 hk ⟨hi2,o4,e4,len4⟩
  simp only at o4 e4 len4
  refine wkT ?_
  refine wiT (fun h4=>?_) (fun h4=>?_)
  ·have hk':k<2 * sl+1:=by omega
   have e5:2 * sl+1-k=(2 * sl+1-(k+1))+1:=by omega
   have e6:(sl:Int)-(2 * sl+1-(k+1):Nat)=-b.sl+k:=by omega
   rw[e5,innerR,e6]at e4
   refine wkT ?_
   refine wiT (fun h5=>?_) (fun h5=>?_)
   ·rw[if_neg h5,List.cons_append]at e4
    refine wkT ?_
    refine Zat (cs:=[vi (j+1:Nat),vi (-b.sl+k)]) (hs _) rfl fun r1 hr1=>?_
    refine wkT ?_
    have hne1:=WaF (H:=H2) (r:=r1) (k:=⟨(j+1:Nat),-b.sl+k⟩)
    generalize hkk:(⟨(j+1:Nat),-b.sl+k⟩:Slip)=kk at *
    refine ZbW (l':=[kk]) (und t38e) (und t38e) (tif t70) rfl (by decide) (hi2.trans (Zaj hr1)) (o4.ins hr1) (by subst hkk;exact hne1) rfl (by simp;omega) (by omega) rfl rfl (hs _) fun v5 H3 b5 k1 k2 k3=>?_
    refine wkT ?_
    refine⟨(⟨k+1,by omega⟩,(v5,l4++[kk],b5)),Nat.sub_lt_sub_left (by omega) (Nat.lt_succ_self k),⟨k1,k2,by rw[List.append_assoc];exact e4,by show (l4++[kk]).length<=j * 300+(k+1);rw[List.length_append,List.length_singleton];omega⟩,⟨rfl,rfl,rfl,?_,trivial⟩,⟨rfl,trivial⟩,rfl⟩
    show some (vi (-b.sl+k+1))=some (vi (-b.sl+(k+1:Nat)))
    congr 2;omega
   ·rw[if_pos h5]at e4
    refine wkT ?_
    refine⟨(⟨k+1,by omega⟩,(v4,l4,b4)),Nat.sub_lt_sub_left (by omega) (Nat.lt_succ_self k),⟨hi2,o4,e4,by show l4.length<=j * 300+(k+1);omega⟩,⟨rfl,rfl,rfl,?_,trivial⟩,⟨rfl,trivial⟩,rfl⟩
    show some (vi (-b.sl+k+1))=some (vi (-b.sl+(k+1:Nat)))
    congr 2;omega
  ·have hk2:2 * sl+1-k=0:=by omega
   rw[hk2,innerR,List.nil_append]at e4
   refine wkT ?_
   refine⟨(⟨j+1,by omega⟩,(v4,l4,b4)),Nat.sub_lt_sub_left (by omega) (Nat.lt_succ_self j),⟨hi2,o4,e4,by show l4.length<=(j+1) * 300;omega⟩,⟨rfl,rfl,?_,trivial⟩,⟨rfl,trivial⟩,rfl⟩
   show some (vi ((j+1:Nat)+1))=some (vi (j+1+1:Nat))
   congr 2
 ·have:j=b.pts.length-1:=by omega
  subst this
  rw[Nat.sub_self,outerR,List.append_nil]at e3
  subst e3
  refine wkT ?_
  exact⟨hi1,b3,o3⟩
end
end Go.Proofs
end
section
open Go Go.LL
namespace Go.Proofs
theorem Wa2 {H:Hp}{r:Nat}{E:TypeId}{v:Value}:SlAt (H.ins r (.cells [v].toArray E)) (.slice (some ⟨r,0,none⟩) 1 1) [v]:=Za4 (l:=[v])
theorem WaH {H:Hp}{r:Nat}{E:TypeId}{x:Int}:SlAt (H.ins r (.cells [vi x].toArray E)) (.slice (some ⟨r,0,none⟩) 1 1) [x]:=Za4 (l:=[x])
section
variable  {P:Prg}[Tz P][Loud P]{H:Hp}
set_option maxHeartbeats 2000000
set_option maxRecDepth 20000
theorem Wbc {bv lv:Value}{b:Bk}{l:List Int}{k:Slip}(hb:BkAt H bv b)(hlv:SlAt H lv l)(hl:l.length<=1000000)(ho:Sm b.op)(hsm:∀ x∈l,Sm x)(hk:Sm k.by_) :
  LL.Zag P 75 #[bv,lv,.agg #[vi k.bf,vi k.by_]] H fun v H'=>Inc H H'∧∃ bb,Own H H' 3 v (Wab b l k) bb:=by
 have hs:∀ g,P.still g=false:=Loud.loud
 obtain⟨pv,cv,rfl,hp,hc⟩:=hb
 obtain⟨o1,o2⟩:=ho
 obtain⟨k1,k2⟩:=hk
 refine IsN.m (isn c75) (args:=[.agg #[vi b.op,vi b.sl,pv,cv],lv,.agg #[vi k.bf,vi k.by_]]) rfl ?_
 unfold n75
 refine wkT ?_
 refine ZaP (α:=Value×Option Nat) l.length (fun j s H'=>Inc H H'∧Own H H' 3 s.1 ((Wab b l k).take j) s.2) (fun j s=>[(1,lv),(3,vi 0),(5,vi 0),(7,s.1),(8,vi j)]) (fun _ _=>[(3,[vi b.op,vi b.sl,pv,cv]),(5,[vi k.bf,vi k.by_])]) (.slice none 0 0,none) ⟨.refl H,.nil _ _ _⟩ ⟨rfl,rfl,rfl,rfl,rfl,trivial⟩ ⟨rfl,rfl,trivial⟩ ?_
 rintro j ⟨v7,b7⟩ H1 hj ⟨hi1,o7⟩
 simp only at o7
 have hlen:(Wab b l k).length=l.length:=by simp[Wab]
 refine wkT ?_
 refine Zav (hlv.inc hi1) rfl ?_
 refine wkT ?_
 refine wiT (fun h1=>?_) (fun h1=>?_)
 ·have hj':j<l.length:=by omega
  obtain⟨m1,m2⟩:=hsm l[j] (List.getElem_mem hj')
  have htk:(Wab b l k).take (j+1)=(Wab b l k).take j++[b.op-l[j]+if k.bf<=j then k.by_ else 0]:=by
   rw[List.take_succ_eq_append_getElem (by omega)]
   simp[Wab,List.getD_eq_getElem?_getD,hj']
  have htl:((Wab b l k).take j).length<=j:=by rw[List.length_take];omega
  refine wkT ?_
  refine ZaE (hlv.inc hi1) rfl rfl rfl (i:=j) hj' fun a ha=>?_
  refine wkT ?_
  refine Zaf (hs _) rfl ha ?_
  refine wkT ?_
  refine wiT (fun h2=>?_) (fun h2=>?_)
  ·rw[if_pos h2]at htk
   refine wkT ?_
   refine Zat (cs:=[vi (b.op-l[j]+k.by_)]) (hs _) rfl fun r1 hr1=>?_
   refine wkT ?_
   refine ZbW (l':=[b.op-l[j]+k.by_]) (und u34) (und u34) (tif t3) rfl (by decide) (hi1.trans (Zaj hr1)) (o7.ins hr1) WaH rfl (by simp;omega) (by omega) rfl rfl (hs _) fun v8 H3 b8 g1 g2 g3=>?_
   rw[<-htk]at g2
   refine wkT ?_
   exact⟨(⟨j+1,by omega⟩,(v8,b8)),Nat.sub_lt_sub_left (by omega) (Nat.lt_succ_self j),⟨g1,g2⟩,⟨rfl,rfl,rfl,rfl,rfl,trivial⟩,⟨rfl,rfl,trivial⟩,rfl⟩
  ·rw[if_neg h2,Int.add_zero]at htk
   refine wkT ?_
   refine Zat (cs:=[vi (b.op-l[j])]) (hs _) rfl fun r1 hr1=>?_
   refine wkT ?_
   refine ZbW (l':=[b.op-l[j]]) (und u34) (und u34) (tif t3) rfl (by decide) (hi1.trans (Zaj hr1)) (o7.ins hr1) WaH rfl (by simp;omega) (by omega) rfl rfl (hs _) fun v8 H3 b8 g1 g2 g3=>?_
   rw[<-htk]at g2
   refine wkT ?_
   exact⟨(⟨j+1,by omega⟩,(v8,b8)),Nat.sub_lt_sub_left (by omega) (Nat.lt_succ_self j),⟨g1,g2⟩,⟨rfl,rfl,rfl,rfl,rfl,trivial⟩,⟨rfl,rfl,trivial⟩,rfl⟩
 ·have:j=l.length:=by omega
  subst this
  rw[List.take_of_length_le (by omega)]at o7
  refine wkT ?_
  exact⟨hi1,b7,o7⟩
theorem Wa3 {bv gv:Value}{b:Bk}{g:List Int}(hb:BkAt H bv b)(hgv:SlAt H gv g)(hl2:b.cks.length<=1000000)(hck:∀ c∈b.cks,0<=c.p∧c.p<g.length) :
  LL.Zag P 142 #[bv,gv] H fun v H'=>H=H'∧v=vb (WaG b g):=by
 have hs:∀ g,P.still g=false:=Loud.loud
 obtain⟨pv,cv,rfl,hp,hc⟩:=hb
 refine IsN.m (isn c142) (args:=[.agg #[vi b.op,vi b.sl,pv,cv],gv]) rfl ?_
 unfold n142
 refine wkT ?_
 refine ZaX b.cks.length (fun j H'=>H=H'∧((b.cks.take j).all fun c=>decide (c.gl<=g.getD c.p.toNat 0∧g.getD c.p.toNat 0<=c.gh))=true) (fun j=>[(1,gv),(2,vi 0),(5,vi j)]) (fun _=>[(2,[vi b.op,vi b.sl,pv,cv])]) ⟨rfl,rfl⟩ ⟨rfl,rfl,rfl,trivial⟩ ⟨rfl,trivial⟩ ?_
 rintro j _ hj ⟨rfl,hall⟩
 refine wkT ?_
 refine Zav hc rfl ?_
 refine wkT ?_
 refine wiT (fun h1=>?_) (fun h1=>?_)
 ·have hj':j<b.cks.length:=by omega
  obtain⟨c1,c2⟩:=hck b.cks[j] (List.getElem_mem hj')
  have hat:=ZkE (f:=fun c:SCk=>decide (c.gl<=g.getD c.p.toNat 0∧g.getD c.p.toNat 0<=c.gh)) hj'
  have hno:=all_no (f:=fun c:SCk=>decide (c.gl<=g.getD c.p.toNat 0∧g.getD c.p.toNat 0<=c.gh)) hj'
  obtain⟨p,hp2⟩:∃ p:Nat,b.cks[j].p=p:=⟨b.cks[j].p.toNat,by omega⟩
  have hpl:p<g.length:=by omega
  refine wkT ?_
  refine ZaE hc rfl rfl rfl (i:=j) hj' fun a ha=>?_
  refine wkT ?_
  refine Zao (hs _) rfl ha rfl ?_
  refine wkT ?_
  refine ZaE hgv rfl (by rw[<-hp2];rfl) rfl (i:=p) hpl fun q hq=>?_
  refine wkT ?_
  refine Zaf (hs _) rfl hq ?_
  refine wkT ?_
  refine Zab (vs:=[vi g[p],vi b.cks[j].gl,vi b.cks[j].gh]) rfl (Zm6 _ _ _) ?_
  rintro v _ ⟨rfl,rfl⟩
  have hgd:g.getD b.cks[j].p.toNat 0=g[p]:=by rw[hp2,Int.toNat_natCast];exact Zbd hpl _
  simp only[hgd]at hat hno
  refine wkT ?_
  refine wiT (fun h2=>?_) (fun h2=>?_)
  ·refine wkT ?_
   exact⟨rfl,by rw[WaG,hno (decide_eq_false h2)];rfl⟩
  ·refine wkT ?_
   exact⟨⟨j+1,by omega⟩,Nat.sub_lt_sub_left (by omega) (Nat.lt_succ_self j),⟨rfl,by rw[hat,hall,decide_eq_true (by omega)];rfl⟩,⟨rfl,rfl,rfl,trivial⟩,⟨rfl,trivial⟩,rfl⟩
 ·have:j=b.cks.length:=by omega
  subst this
  rw[List.take_length]at hall
  refine wkT ?_
  exact⟨rfl,by rw[WaG,hall];rfl⟩
end
end Go.Proofs
end
section
open Go Go.LL
namespace Go.Proofs
def Wac (b:Bk)(i:Nat):List Int:=(List.range ((ptAt b i).mh-(ptAt b i).ml+1).toNat).map fun (t:Nat)=>(ptAt b i).ml+t
def mkL (b:Bk):Nat->List (List Int)
 | 0=>[[]]
 | i+1=>(mkL b i).flatMap fun l=>(Wac b i).map fun n=>l++[n]
theorem WaJ {α β:Type}{f:α->List β}{l:List α}{j:Nat}(hj:j<l.length):(l.take (j+1)).flatMap f=(l.take j).flatMap f++f l[j]:=by
 rw[List.take_succ_eq_append_getElem hj,List.flatMap_append];simp
theorem WaZ {b:Bk}(v:Zeo b){i:Nat}(hi:i<b.pts.length):(Wac b i).length<=3:=by
 rw[Wac,List.length_map,List.length_range,show ptAt b i=b.pts[i] from Zbd hi _]
 have:=v.pts i hi
 omega
theorem Wao {α β:Type}{f:α->List β}{k:Nat}:∀ {l:List α},(∀ x∈l,(f x).length<=k)->(l.flatMap f).length<=l.length * k
 | [],_=>by simp
 | a :: l,h=>by
  have h1:=h a (List.mem_cons_self ..)
  have h2:=Wao (f:=f) (k:=k) (l:=l) fun x hx=>h x (List.mem_cons_of_mem _ hx)
  rw[List.flatMap_cons,List.length_append,List.length_cons,Nat.succ_mul]
  omega
theorem Wa6 {b:Bk}(v:Zeo b):∀ i,i<=b.pts.length->(mkL b i).length<=3 ^ i
 | 0,_=>by simp[mkL]
 | i+1,hi=>by
  rw[mkL,Nat.pow_succ]
  exact Nat.le_trans (Wao fun l hl=>by rw[List.length_map];exact WaZ v (by omega)) (Nat.mul_le_mul_right _ (Wa6 v i (by omega)))
theorem WaQ {b:Bk}(v:Zeo b):∀ i,i<=b.pts.length->∀ l∈mkL b i,l.length=i∧∀ x∈l,0<=x∧x<=99
 | 0,_,l,hl=>by
  rw[mkL,List.mem_singleton]at hl
  subst hl;simp
 | i+1,hi,l,hl=>by
  rw[mkL,List.mem_flatMap]at hl
  obtain⟨m,hm,hl⟩:=hl
  obtain⟨n,hn,rfl⟩:=List.mem_map.1 hl
  obtain⟨h1,h2⟩:=WaQ v i (by omega) m hm
  refine⟨by simp[h1],fun x hx=>?_⟩
  rcases List.mem_append.1 hx with hx | hx
  ·exact h2 x hx
  ·rw[List.mem_singleton.1 hx]
   rw[Wac,List.mem_map]at hn
   obtain⟨t,ht,rfl⟩:=hn
   rw[List.mem_range]at ht
   rw[show ptAt b i=b.pts[i] from Zbd (by omega) _]at ht ⊢
   have:=v.pts i (by omega)
   omega
theorem WaT {H:Hp}{a:Addr}{cs:List Value}(h:CellsAt H a cs):CellsAt H (a.add 0) cs:=by rw[add_zero];exact h
section
variable  {P:Prg}[Tz P][Loud P]{H:Hp}
set_option maxHeartbeats 4000000
set_option maxRecDepth 20000
theorem WaY {bv:Value}{b:Bk}(hb:BkAt H bv b)(v:Zeo b) :
  LL.Zag P 145 #[bv] H fun v H'=>Inc H H'∧∃ vs,SlAt H' v vs∧LLAt H' vs (mkL b b.pts.length):=by
 have hs:∀ g,P.still g=false:=Loud.loud
 have hn:=v.n
 obtain⟨pv,cv,rfl,hp,hc⟩:=hb
 refine IsN.m (isn c145) (args:=[.agg #[vi b.op,vi b.sl,pv,cv]]) rfl ?_
 unfold n145
 refine wkT ?_
 refine Zat (cs:=[.slice none 0 0]) (hs _) rfl fun r0 hr0=>?_
 have s0:SlAt (H.ins r0 (.cells [Value.slice none 0 0].toArray 34)) (.slice (some ⟨r0,0,none⟩) 1 1) [Value.slice none 0 0]:=Wa2
 have l0:LLAt (H.ins r0 (.cells [Value.slice none 0 0].toArray 34)) [Value.slice none 0 0] (mkL b 0):=(LLAt.nil _).snoc (.nil _)
 have i0:Inc H (H.ins r0 (.cells [Value.slice none 0 0].toArray 34)):=Zaj hr0
 generalize H.ins r0 (.cells [Value.slice none 0 0].toArray 34)=H0 at *
 refine wkT ?_
 refine ZaP (α:=Value×List Value) b.pts.length (fun i s H'=>Inc H H'∧SlAt H' s.1 s.2∧LLAt H' s.2 (mkL b i)) (fun i s=>[(1,vi 0),(3,s.1),(4,vi i)]) (fun _ _=>[(1,[vi b.op,vi b.sl,pv,cv])]) (.slice (some ⟨r0,0,none⟩) 1 1,[.slice none 0 0]) ⟨i0,s0,l0⟩ ⟨rfl,rfl,rfl,trivial⟩ ⟨rfl,trivial⟩ ?_
 rintro i ⟨v3,vs⟩ H1 hi ⟨i1,s3,l3⟩
 simp only at s3 l3
 have hl3:=l3.len
 have hml:=Wa6 v i hi
 have h81:3 ^ i<=3 ^ 4:=Nat.pow_le_pow_right (by decide) (by omega)
 refine wkT ?_
 refine Zav (hp.inc i1) rfl ?_
 refine wkT ?_
 refine wiT (fun h1=>?_) (fun h1=>?_)
 ·have hi':i<b.pts.length:=by omega
  have hsp:=WaZ v hi'
  have hpt:ptAt b i=b.pts[i]:=Zbd hi' _
  obtain⟨p1,p2,_⟩:=v.pts i hi'
  refine wkT ?_
  refine ZaP (α:=Hp×Value×List Value×Option Nat) vs.length (fun k s H'=>Inc H1 s.1∧Inc s.1 H'∧Own s.1 H' 34 s.2.1 s.2.2.1 s.2.2.2∧LLAt s.1 s.2.2.1 (((mkL b i).take k).flatMap fun l=>(Wac b i).map fun n=>l++[n]))
   (fun k s=>[(1,vi 0),(3,v3),(4,vi i),(5,s.2.1),(6,vi k)]) (fun _ _=>[(1,[vi b.op,vi b.sl,pv,cv])]) (H1,.slice none 0 0,[],none) ⟨.refl H1,.refl H1,.nil _ _ _,.nil _⟩ ⟨rfl,rfl,rfl,rfl,rfl,trivial⟩ ⟨rfl,trivial⟩ ?_
  rintro k ⟨G,v5,ws,b5⟩ H2 hk ⟨g1,g2,o5,l5⟩
  simp only at g1 g2 o5 l5
  have hl5:=l5.len
  have hwl:ws.length<=k * 3:=by
   rw[hl5]
   refine Nat.le_trans (Wao (k:=3) fun l hl=>by rw[List.length_map];exact hsp) (Nat.mul_le_mul_right _ (by rw[List.length_take];omega))
  refine wkT ?_
  refine Zav (s3.inc (g1.trans g2)) rfl ?_
  refine wkT ?_
  refine wiT (fun h2=>?_) (fun h2=>?_)
  ·have hk':k<vs.length:=by omega
   have hkm:k<(mkL b i).length:=by omega
   have hft:=WaJ (f:=fun l=>(Wac b i).map fun n=>l++[n]) hkm
   obtain⟨hml1,hml2⟩:=WaQ v i (by omega) (mkL b i)[k] (List.getElem_mem hkm)
   have hsk:=l3.at_ k hk' hkm
   generalize (mkL b i)[k]=l at *
   generalize (List.flatMap (fun l=>(Wac b i).map fun n=>l++[n]) ((mkL b i).take k))=L at *
   refine wkT ?_
   refine ZaE ((hp.inc i1).inc (g1.trans g2)) rfl rfl rfl (i:=i) hi' fun a ha=>?_
   refine wkT ?_
   refine Zaf (hs _) rfl (ZbA (j:=0) (WaT ha) rfl) ?_
   refine wkT ?_
   have hcnt:(Wac b i).length=(b.pts[i].mh-b.pts[i].ml+1).toNat:=by rw[Wac,List.length_map,List.length_range,hpt]
   refine ZaP (α:=Hp×Value×List Value×Option Nat) (Wac b i).length (fun t s H'=>Inc H1 s.1∧Inc s.1 H'∧Own s.1 H' 34 s.2.1 s.2.2.1 s.2.2.2∧LLAt s.1 s.2.2.1 (L++((Wac b i).take t).map fun n=>l++[n]))
    (fun t s=>[(1,vi 0),(3,v3),(4,vi i),(5,s.2.1),(6,vi k),(7,vi (b.pts[i].ml+t))]) (fun _ _=>[(1,[vi b.op,vi b.sl,pv,cv])]) (G,v5,ws,b5) ⟨g1,g2,o5,by simpa using l5⟩ ⟨rfl,rfl,rfl,rfl,rfl,by simp[NSt.set],trivial⟩ ⟨rfl,trivial⟩ ?_
   rintro t ⟨G1,v6,us,b6⟩ H3 ht ⟨q1,q2,o6,l6⟩
   simp only at q1 q2 o6 l6
   have hl6:=l6.len
   refine wkT ?_
   refine ZaE ((hp.inc i1).inc (q1.trans q2)) rfl rfl rfl (i:=i) hi' fun a ha=>?_
   refine wkT ?_
   refine Zaf (hs _) rfl (ZbA (j:=1) (WaT ha) rfl) ?_
   refine wkT ?_
   refine wiT (fun h3=>?_) (fun h3=>?_)
   ·have ht':t<(Wac b i).length:=by omega
    have hsv:(Wac b i)[t]=b.pts[i].ml+t:=by simp[Wac,hpt]
    have hts:(L++((Wac b i).take (t+1)).map fun n=>l++[n])=(L++((Wac b i).take t).map fun n=>l++[n])++[l++[b.pts[i].ml+t]]:=by
     rw[List.take_succ_eq_append_getElem ht',List.map_append,hsv,List.append_assoc];rfl
    have hul:us.length<=300:=by
     rw[hl6,List.length_append,List.length_map,List.length_take]
     omega
    refine wkT ?_
    refine Zdw (und u34) (tif t3) (hs _) fun r1 hr1=>?_
    have o7:Own H3 (H3.ins r1 (.cells #[] 3)) 3 (.slice (some ⟨r1,0,none⟩) 0 0) ([]:List Int) (some r1):=own_nil0 hr1
    have q3:Inc H3 (H3.ins r1 (.cells #[] 3)):=Zaj hr1
    generalize H3.ins r1 (.cells #[] 3)=H4 at *
    refine wkT ?_
    refine ZaE ((s3.inc (q1.trans q2)).inc q3) rfl rfl rfl (i:=k) hk' fun a ha=>?_
    refine wkT ?_
    refine Zaf (hs _) rfl ha ?_
    refine wkT ?_
    refine ZbW (l':=l) (und u34) (und u34) (tif t3) rfl (by decide) q3 o7 (hsk.inc ((q1.trans q2).trans q3)) (ints_one l) (by simp;omega) (by omega) rfl rfl (hs _) fun v8 H5 b8 q4 o8 _=>?_
    refine wkT ?_
    refine Zat (cs:=[vi (b.pts[i].ml+t)]) (hs _) rfl fun r2 hr2=>?_
    refine wkT ?_
    refine ZbW (l':=[b.pts[i].ml+t]) (und u34) (und u34) (tif t3) rfl (by decide) (q4.trans (Zaj hr2)) (o8.ins hr2) WaH rfl (by simp;omega) (by omega) rfl rfl (hs _) fun v9 H6 b9 q5 o9 _=>?_
    rw[List.nil_append]at o9
    obtain⟨G2,w1,w2,w3,w4⟩:=own_add q2 o6 q5 o9
    obtain⟨A9,c9,rfl,_⟩:=id w4
    refine wkT ?_
    refine Zat (cs:=[.slice A9 (l++[b.pts[i].ml+↑t]).length c9]) (hs _) rfl fun r3 hr3=>?_
    refine wkT ?_
    refine ZbW (l':=[Value.slice A9 (l++[b.pts[i].ml+↑t]).length c9]) (und u157) (und u157) (tif t34) rfl (by decide) (w2.trans (Zaj hr3)) (w3.ins hr3) Wa2 rfl (by simp;omega) (by omega) rfl rfl (hs _) fun v10 H7 b10 q6 o10 _=>?_
    refine wkT ?_
    refine⟨(⟨t+1,by omega⟩,(G2,v10,us++[.slice A9 (l++[b.pts[i].ml+↑t]).length c9],b10)),Nat.sub_lt_sub_left (by omega) (Nat.lt_succ_self t),⟨q1.trans w1,q6,o10,by rw[hts];exact(l6.inc w1).snoc w4⟩,⟨rfl,rfl,rfl,rfl,rfl,?_,trivial⟩,⟨rfl,trivial⟩,rfl⟩
    show some (vi (b.pts[i].ml+t+1))=some (vi (b.pts[i].ml+(t+1:Nat)))
    congr 2;omega
   ·have:t=(Wac b i).length:=by omega
    subst this
    rw[List.take_length]at l6
    refine wkT ?_
    exact⟨(⟨k+1,by omega⟩,(G1,v6,us,b6)),Nat.sub_lt_sub_left (by omega) (Nat.lt_succ_self k),⟨q1,q2,o6,by rw[hft];exact l6⟩,⟨rfl,rfl,rfl,rfl,rfl,trivial⟩,⟨rfl,trivial⟩,rfl⟩
  ·have:k=vs.length:=by omega
   subst this
   rw[List.take_of_length_le (by omega)]at l5
   refine wkT ?_
   exact⟨(⟨i+1,by omega⟩,(v5,ws)),Nat.sub_lt_sub_left (by omega) (Nat.lt_succ_self i),⟨(i1.trans g1).trans g2,o5.sl,l5.inc g2⟩,⟨rfl,rfl,rfl,trivial⟩,⟨rfl,trivial⟩,rfl⟩
 ·have:i=b.pts.length:=by omega
  subst this
  refine wkT ?_
  exact⟨i1,vs,s3,l3⟩
end
end Go.Proofs
end
