/- proofs about Leango given: part P26; made by a program out of the longer texts in wip -/
import Derived.Test.YtamdhefhhdgjbaaGreatDoorP22
import Derived.Test.YtamdhefhhdgjbaaGreatDoorP23
import Derived.Test.YtamdhefhhdgjbaaGreatDoorP24
import Derived.Test.YtamdhefhhdgjbaaGreatDoorP25
set_option linter.all false
section
open Go Go.LL Go.Z
namespace Go.Proofs
def n25:Zai:=(sq [m0 4] (.seq (sq [m 6 0,le 7 6,m 8 1,le 9 8,b 10 .neq 7 9] (.cond (t 10) (sq [m0 4] .ret) .skip)) (.seq (sq [mi 5 0] (.block 0 (.loop (.seq (sq [m 11 5,m 12 0,le 13 12,b 14 .lss 11 13] (.cond (t 14) .skip (.exit 0))) (.seq (.block 1 (.seq (.drawn [(m 17 0,none),(m 18 5,none),(ia 19 1 17 18,none),(ld 20 19,none),(m 21 1,none),(m 22 5,none),(ia 23 1 21 22,none),(ld 24 23,none),(b 25 .neq 20 24,none)]) (.cond (t 25) (sq [m0 4] .ret) .skip))) (.ops [m 15 5,bk 16 .add 15 1,m 5 16])))))) (sq [m1 4] .ret))))
def r25:List NRes:=[(.slot 4)]
theorem c25:IsN Tryz.prog 25 2 n25 r25:=isq [] Tryz.func25
def n35:Zai:=(sq [o 1 (.lbox 1 [1] (t 0)),mi 2 0,mi 3 0,mi 4 0] (sq [l 15 1 4 1,o 16 (.call 89 [(t 15),(.func 90)]),m 14 16,x 17 14 0,x 18 14 1,o 5 (.raw (.alloc 112) 0),st 112 5 17 0,m 4 18] (.seq (sq [m 19 4,bk 20 .neq 19 0] (.cond (t 20) (sq [m 21 4,mi 2 0,mi 3 0,m 4 21] .ret) .skip)) (sq [o 6 (.raw (.alloc 141) 0)] (sq [o 7 (.raw (.alloc 148) 0)] (sq [o 8 (.raw (.alloc 149) 0)] (sq [o 22 (.raw (.makeMap 150 none) 150),o 9 (.raw (.alloc 150) 0),st 150 9 22 0] (.seq (sq [o 23 (.fadr 4 (t 5)),ld 24 23,le 25 24,mi 26 0] (.block 0 (.loop (sq [b 27 .lss 26 25] (.seq (.cond (t 27) .skip (.exit 0)) (.seq (.block 1 (sq [ia 28 6 24 26,lm 29 6 28,o 11 (.lzero 11 [11] [z0,z0,z0,z0,z0,z0]),ls 11 6 11 29] (sq [o 30 (.fadr 0 (t 5)),lm 31 4 30,l 32 11 6 11,c2 33 103 31 32] (.cond (t 33) (.two [(ld 34 9,none),(o 35 (.fadr 0 (t 5)),none),(lm 36 4 35,none),(l 37 11 6 11,none),(c2 38 100 36 37,(some true)),(o 39 (.raw (.lookup 150 (t 34) (t 38) false) 3),none),(bk 40 .add 39 1,none),(o 41 (.raw (.mapEntry 150 (t 34) (t 38)) 0),(some false)),(x 42 41 1,none),(u (.raw (.entryStore 150 (t 34) (t 42) (t 40)) 0),none)] [(ld 34 9,none),(o 35 (.fadr 0 (t 5)),none),(lm 36 4 35,none),(l 37 11 6 11,none),(c2 38 100 36 37,(some true)),(o 41 (.raw (.mapEntry 150 (t 34) (t 38)) 0),none),(x 42 41 1,none),(o 39 (.raw (.lookup 150 (t 34) (t 38) false) 3),(some false)),(bk 40 .add 39 1,none),(u (.raw (.entryStore 150 (t 34) (t 42) (t 40)) 0),none)]) .skip)))) (.ops [bk 43 .add 26 1,m 26 43]))))))) (.seq (sq [mi 44 0] (.block 2 (.loop (sq [bk 45 .lss 44 1195] (.seq (.cond (t 45) .skip (.exit 2)) (.seq (.block 3 (sq [m 46 44,o 12 (.raw (.alloc 3) 0),st 3 12 46 0] (sq [o 47 (.call 109 [(t 7),(k 1)])] (.ops [o 48 (.raw (.makeFunc (.func 110) #[] #[(t 7),(t 12),(t 9),(t 5),(t 6),(t 8)]) 1),u (.raw (.go (.mk (.value (t 48)) #[] #[])) 0)])))) (.ops [bk 49 .add 44 1,m 44 49]))))))) (sq [c1 50 115 7] (.seq (sq [ld 51 8,le 52 51,bk 53 .eql 52 0] (.cond (t 53) (sq [mi 2 0,mi 3 0,mi 4 0] .ret) .skip)) (.seq (.drawn [(ld 54 8,none),(o 55 (.iadr 2 (t 54) (k 0)),none),(lm 56 2 55,none),(ld 57 8,none),(o 58 (.pur (.slice 149 (t 57) (some (k 1)) none none) 149),none),(o 13 (.lzero 13 [13,60,62] [z0,z0]),none),(o 59 (.call 116 [(.func 117),(t 56),(t 58)]),(some false)),(ls 13 2 13 59,none)]) (.seq (.drawn [(f 60 0 13,none),(ln 61 13 60,none),(f 62 1 13,none),(ln 63 13 62,none),(m 2 61,none),(m 3 63,none),(mi 4 0,none)]) .ret)))))))))))))
def r35:List NRes:=[(.slot 2),(.slot 3),(.slot 4)]
theorem c35:IsN Tryz.prog 35 1 n35 r35:=isq [(1,1),(11,11),(13,13),(60,13),(62,13)] Tryz.func35
def n60:Zai:=(sq [o 1 (.raw (.box 25 (t 0)) 0),mi 2 0,mi 3 0,mi 4 0] (.seq (sq [lm 8 4 1,c1 9 78 8,m 5 9] (sq [m 10 5,bk 11 .neq 10 0] (.cond (t 11) (sq [m 12 5,mi 2 0,mi 3 0,m 4 12] .ret) .skip))) (sq [o 13 (.raw (.makeFunc (.func 133) #[] #[(t 1)]) 171),m 6 13] (.seq (sq [o 14 (.fadr 2 (t 1)),ld 15 14,le 16 15,mi 17 0] (.block 0 (.loop (sq [b 18 .lss 17 16] (.seq (.cond (t 18) .skip (.exit 0)) (.seq (.block 1 (sq [m 19 17,m 7 19] (sq [m 20 6,m 21 7,o 22 (.raw (.call (.mk (.value (t 20)) #[(t 21)] #[3])) 3),m 23 6,m 24 2,o 25 (.raw (.call (.mk (.value (t 23)) #[(t 24)] #[3])) 3),b 26 .lss 22 25] (.cond (t 26) (.ops [m 27 7,m 2 27]) .skip)))) (.ops [bk 28 .add 17 1,m 17 28]))))))) (sq [m 29 2,m 30 6,m 31 2,o 32 (.raw (.call (.mk (.value (t 30)) #[(t 31)] #[3])) 3),m 2 29,m 3 32,mi 4 0] .ret)))))
def r60:List NRes:=[(.slot 2),(.slot 3),(.slot 4)]
theorem c60:IsN Tryz.prog 60 1 n60 r60:=isq [] Tryz.func60
def n85:Zai:=(sq [o 0 (.lzero 0 [0] [z0,z0,s0,s0])] (sq [o 1 (.call 49 [(k 4)]),o 2 (.call 62 [(k 0),(k 12)]),o 3 (.build [z0,z0,z0,z0,z0] [(0,(2,(t 1))),(2,(2,(t 2))),(4,(1,(k 4)))]),o 4 (.call 62 [(k 5),(k 6)]),o 5 (.call 62 [(k 1),(k 12)]),o 6 (.build [z0,z0,z0,z0,z0] [(0,(2,(t 4))),(2,(2,(t 5))),(4,(1,(k 4)))]),o 7 (.call 49 [(k 4)]),o 8 (.call 62 [(k 0),(k 10)]),o 9 (.build [z0,z0,z0,z0,z0] [(0,(2,(t 7))),(2,(2,(t 8))),(4,(1,(k 4)))]),o 10 (.buildS 59 3 [z0,z0,z0,z0,z0,z0,z0,z0,z0,z0,z0,z0,z0,z0,z0] [(0,(5,(t 3))),(5,(5,(t 6))),(10,(5,(t 9)))]),o 11 (.call 62 [(k 6),(k 7)]),o 12 (.build [z0,z0,z0] [(0,(1,(k 2))),(1,(2,(t 11)))]),o 13 (.buildS 51 1 [z0,z0,z0] [(0,(3,(t 12)))]),o 14 (.build [z0,z0,s0,s0] [(0,(1,(k 10))),(1,(1,(k 1))),(2,(1,(t 10))),(3,(1,(t 13)))]),ls 0 4 0 14] .ret))
def r85:List NRes:=[(.var 0 0 (some 4))]
theorem c85:IsN Tryz.prog 85 0 n85 r85:=isq [(0,0)] Tryz.func85
def n90:Zai:=(sq [o 1 (.lbox 1 [1] (t 0)),m0 2] (sq [m1 2] .ret))
def r90:List NRes:=[(.slot 2)]
theorem c90:IsN Tryz.prog 90 1 n90 r90:=isq [(1,1)] Tryz.func90
def n95:Zai:=(sq [o 2 (.lbox 2 [2,11,12,18,19,23,24] (t 0))] (.seq (sq [m 6 1,o 7 (.build [z0,z0] []),o 8 (.raw (.call (.mk (.value (t 6)) #[(t 7)] #[70])) 4),o 9 (.not (t 8))] (.cond (t 9) .ret .skip)) (sq [mi 4 1] (.block 0 (.loop (.seq (sq [m 10 4,f 11 0 2,f 12 2 11,ln 13 2 12,le 14 13,b 15 .lss 10 14] (.cond (t 15) .skip (.exit 0))) (.seq (.block 1 (.seq .skip (sq [f 18 0 2,f 19 1 18,ln 20 2 19,o 21 (.raw (.unOp .neg 3 (t 20)) 3),m 5 21] (.block 2 (.loop (.seq (sq [m 22 5,f 23 0 2,f 24 1 23,ln 25 2 24,b 26 .leq 22 25] (.cond (t 26) .skip (.exit 2))) (.seq (.block 3 (.seq (sq [m 29 5,bk 30 .eql 29 0] (.cond (t 30) (.exit 3) .skip)) (sq [m 31 1,m 32 4,m 33 5,o 34 (.build [z0,z0] [(0,(1,(t 32))),(1,(1,(t 33)))]),o 35 (.raw (.call (.mk (.value (t 31)) #[(t 34)] #[70])) 4),o 36 (.not (t 35))] (.cond (t 36) .ret .skip)))) (.ops [m 27 5,bk 28 .add 27 1,m 5 28])))))))) (.ops [m 16 4,bk 17 .add 16 1,m 4 17]))))))))
def r95:List NRes:=[]
theorem c95:IsN Tryz.prog 95 2 n95 r95:=isq [(2,2),(11,2),(12,2),(18,2),(19,2),(23,2),(24,2)] Tryz.func95
def n100:Zai:=(sq [o 2 (.lbox 2 [2,7,8,15,16] (t 0)),o 3 (.lbox 3 [3,19,20,25,26,32,33] (t 1)),o 4 (.lzero 4 [4] [z0,z0,z0,z0])] (sq [o 5 (.lzero 5 [5,23,30,36] [z0,z0,z0,z0])] (.seq (sq [f 7 0 2,f 8 2 7,ln 9 2 8,le 10 9,mi 11 0] (.block 0 (.loop (sq [b 12 .lss 11 10] (.seq (.cond (t 12) .skip (.exit 0)) (.seq (.block 1 (sq [m 13 11,m 6 13] (.seq (.drawn [(m 14 6,none),(f 15 0 2,none),(f 16 0 15,none),(ln 17 2 16,none),(m 18 6,none),(f 19 0 3,none),(o 20 (.liadr 1 4 19 (t 18)),none),(ln 21 3 20,none),(b 22 .sub 17 21,none),(o 23 (.liadr 1 4 5 (t 14)),none),(ls 5 1 23 22,none)]) (sq [m 24 6,f 25 4 3,f 26 0 25,ln 27 3 26,b 28 .geq 24 27] (.cond (t 28) (.drawn [(m 29 6,none),(o 30 (.liadr 1 4 5 (t 29)),none),(ln 31 5 30,none),(f 32 4 3,none),(f 33 1 32,none),(ln 34 3 33,none),(b 35 .add 31 34,none),(o 36 (.liadr 1 4 5 (t 29)),none),(ls 5 1 36 35,none)]) .skip))))) (.ops [bk 37 .add 11 1,m 11 37]))))))) (sq [l 38 5 4 5,ls 4 4 4 38] .ret))))
def r100:List NRes:=[(.var 4 4 (some 4))]
theorem c100:IsN Tryz.prog 100 2 n100 r100:=isq [(2,2),(3,3),(4,4),(5,5),(7,2),(8,2),(15,2),(16,2),(19,3),(20,3),(23,5),(25,3),(26,3),(30,5),(32,3),(33,3),(36,5)] Tryz.func100
def n105:Zai:=(sq [o 2 (.lbox 2 [2,9,10] (t 0)),o 3 (.lbox 3 [3,23,36] (t 1)),o 4 (.lzero 4 [4] [z0,z0])] (sq [o 5 (.mov (.const s0)),o 6 (.mov (.const s0))] (.seq (sq [f 9 0 2,f 10 2 9,ln 11 2 10,le 12 11,mi 13 0] (.block 0 (.loop (sq [b 14 .lss 13 12] (.seq (.cond (t 14) .skip (.exit 0)) (.seq (.block 1 (sq [m 15 13,ia 16 5 11 13,lm 17 5 16,o 8 (.lzero 8 [8,19,20,29,30,32] [z0,z0,z0,z0,z0]),m 7 15,ls 8 5 8 17] (.drawn [(m 18 5,none),(f 19 2 8,none),(f 20 0 19,none),(ln 21 8 20,none),(m 22 7,none),(o 23 (.liadr 1 4 3 (t 22)),none),(ln 24 3 23,none),(b 25 .sub 21 24,none),(m 28 6,none),(f 29 2 8,none),(f 30 1 29,none),(ln 31 8 30,none),(f 32 4 8,none),(ln 33 8 32,none),(b 34 .sub 31 33,none),(m 35 7,none),(o 36 (.liadr 1 4 3 (t 35)),none),(ln 37 3 36,none),(b 38 .sub 34 37,none),(u (.build [z0] [(0,(1,(t 38)))]),none),(o 26 (.buildS 3 1 [z0] [(0,(1,(t 25)))]),(some false)),(u (.build [z0] [(0,(1,(t 38)))]),none),(o 27 (.raw (.call (.mk (.builtin .append) #[(t 18),(t 26)] #[34,34])) 34),(some false)),(o 39 (.buildS 3 1 [z0] [(0,(1,(t 38)))]),(some false)),(o 40 (.raw (.call (.mk (.builtin .append) #[(t 28),(t 39)] #[34,34])) 34),none),(m 5 27,none),(m 6 40,none)]))) (.ops [bk 41 .add 13 1,m 13 41]))))))) (.seq (.drawn [(m 42 5,none),(o 43 (.iadr 1 (t 42) (k 0)),none),(ld 44 43,none),(m 45 5,none),(o 46 (.pur (.slice 34 (t 45) (some (k 1)) none none) 34),none),(m 48 6,none),(o 49 (.iadr 1 (t 48) (k 0)),none),(ld 50 49,none),(m 51 6,none),(o 52 (.pur (.slice 34 (t 51) (some (k 1)) none none) 34),none),(o 47 (.call 106 [(.func 107),(t 44),(t 46)]),(some true)),(o 53 (.call 106 [(.func 108),(t 50),(t 52)]),none),(o 54 (.build [z0,z0] [(0,(1,(t 47))),(1,(1,(t 53)))]),none),(ls 4 2 4 54,none)]) .ret))))
def r105:List NRes:=[(.var 4 4 (some 2))]
theorem c105:IsN Tryz.prog 105 2 n105 r105:=isq [(2,2),(3,3),(4,4),(8,8),(9,2),(10,2),(19,8),(20,8),(23,3),(29,8),(30,8),(32,8),(36,3)] Tryz.func105
def n112:Zai:=(sq [m0 6] (sq [m 7 1,m 8 0,b 9 .leq 7 8,m 10 9,mt 10 11 0,mt 10 12 2,gt 10 13 (.bin .leq (t 11) (t 12)),pa 14 10 13,m 6 14] .ret))
def r112:List NRes:=[(.slot 6)]
theorem c112:IsN Tryz.prog 112 3 n112 r112:=isq [] Tryz.func112
def n120:Zai:=(sq [o 2 (.lbox 2 [2,13,14] (t 0)),o 4 (.lzero 4 [4] [z0,z0,s0,s0]),o 5 (.mov (.const s0))] (sq [o 6 (.mov (.const s0))] (sq [l 10 2 4 2,o 7 (.lzero 7 [7,11,12,31,32,37,38] [z0,z0,s0,s0]),ls 7 4 7 10] (sq [f 11 0 7,f 12 3 11,u (.lst 7 1 12 (.const s0))] (.seq (sq [f 13 0 2,f 14 3 13,ln 15 2 14,le 16 15,mi 17 0] (.block 0 (.loop (sq [b 18 .lss 17 16] (.seq (.cond (t 18) .skip (.exit 0)) (.seq (.block 1 (sq [m 19 17,ia 20 3 15 17,lm 21 3 20,o 9 (.lzero 9 [9] [z0,z0,z0]),m 8 19,ls 9 3 9 21] (sq [m 22 1,m 23 8,o 24 (.pur (.binOp .shr 3 (t 22) (t 23) 3) 3),o 25 (.pur (.binOp .and 3 (t 24) (k 1) 3) 3),bk 26 .eql 25 1] (.cond (t 26) (.drawn [(m 27 6,none),(m 28 8,none),(f 31 0 7,none),(f 32 3 31,none),(ln 33 7 32,none),(l 34 9 3 9,none),(u (.build [z0,z0,z0] [(0,(3,(t 34)))]),none),(o 29 (.buildS 3 1 [z0] [(0,(1,(t 28)))]),(some false)),(u (.build [z0,z0,z0] [(0,(3,(t 34)))]),none),(o 30 (.raw (.call (.mk (.builtin .append) #[(t 27),(t 29)] #[34,34])) 34),(some false)),(o 35 (.buildS 51 1 [z0,z0,z0] [(0,(3,(t 34)))]),(some false)),(o 36 (.raw (.call (.mk (.builtin .append) #[(t 33),(t 35)] #[23,23])) 23),none),(m 6 30,none),(f 37 0 7,none),(f 38 3 37,none),(ls 7 1 38 36,none)]) .skip)))) (.ops [bk 39 .add 17 1,m 17 39]))))))) (sq [l 40 7 4 7,m 41 6,ls 4 4 4 40,m 5 41] .ret))))))
def r120:List NRes:=[(.var 4 4 (some 4)),(.slot 5)]
theorem c120:IsN Tryz.prog 120 2 n120 r120:=isq [(2,2),(4,4),(7,7),(9,9),(11,7),(12,7),(13,2),(14,2),(31,7),(32,7),(37,7),(38,7)] Tryz.func120
def n125:Zai:=(sq [o 2 (.mov (.const s0))] (.seq (sq [m 3 0,o 4 (.pur (.binOp .eql 23 (t 3) (.const s0) 23) 4)] (.cond (t 4) (sq [o 2 (.mov (.const s0))] .ret) .skip)) (sq [o 5 (.raw (.buildSlice 23 0 #[]) 23),m 6 0,o 7 (.raw (.call (.mk (.builtin .append) #[(t 5),(t 6)] #[23,23])) 23),m 2 7] .ret)))
def r125:List NRes:=[(.slot 2)]
theorem c125:IsN Tryz.prog 125 1 n125 r125:=isq [] Tryz.func125
def n130:Zai:=(sq [o 3 (.lbox 3 [3,8,12,14,19] (t 0)),m0 6] (sq [m 7 1,f 8 0 3,ln 9 3 8,b 10 .leq 7 9,m 11 10,gt 11 12 (.lfadr 0 3),gt 11 13 (.lld 3 none 12),gt 11 14 (.lfadr 1 3),gt 11 15 (.lld 3 none 14),gt 11 16 (.bin .leq (t 13) (t 15)),pa 17 11 16,m 18 17,gt 18 19 (.lfadr 1 3),gt 18 20 (.lld 3 none 19),mt 18 21 2,gt 18 22 (.bin .leq (t 20) (t 21)),pa 23 18 22,m 6 23] .ret))
def r130:List NRes:=[(.slot 6)]
theorem c130:IsN Tryz.prog 130 3 n130 r130:=isq [(3,3),(8,3),(12,3),(14,3),(19,3)] Tryz.func130
def n140:Zai:=(sq [o 2 (.lbox 2 [2,9,10] (t 0)),o 3 (.lbox 3 [3] (t 1)),m0 4] (sq [l 6 2 4 2,l 7 3 6 3,c2 8 100 6 7,o 5 (.raw (.alloc 119) 0),st 119 5 8 0] (sq [f 9 0 2,f 10 3 9,ln 11 2 10,o 12 (.raw (.makeFunc (.func 177) #[] #[(t 5)]) 209),c2 13 176 11 12,o 14 (.not (t 13)),m 4 14] .ret)))
def r140:List NRes:=[(.slot 4)]
theorem c140:IsN Tryz.prog 140 2 n140 r140:=isq [(2,2),(3,3),(9,2),(10,2)] Tryz.func140
def n174:Zai:=(sq [o 2 (.mov (.const s0))] (.seq (sq [m 3 0,o 4 (.pur (.binOp .eql 34 (t 3) (.const s0) 34) 4)] (.cond (t 4) (sq [o 2 (.mov (.const s0))] .ret) .skip)) (sq [o 5 (.raw (.buildSlice 34 0 #[]) 34),m 6 0,o 7 (.raw (.call (.mk (.builtin .append) #[(t 5),(t 6)] #[34,34])) 34),m 2 7] .ret)))
def r174:List NRes:=[(.slot 2)]
theorem c174:IsN Tryz.prog 174 1 n174 r174:=isq [] Tryz.func174
def n179:Zai:=(sq [m 8 1,bk 9 .add 8 1,m 6 9] (.block 0 (.loop (.seq (sq [m 10 6,m 11 2,b 12 .lss 10 11] (.cond (t 12) .skip (.exit 0))) (.seq (.block 1 (sq [m 15 6,m 7 15] (.block 2 (.loop (.seq (.seq (.drawn [(m 16 7,none),(m 17 1,none),(b 18 .gtr 16 17,none),(m 19 18,none),(mt 19 20 0,none),(mt 19 21 7,none),(gt 19 22 (.iadr 1 (t 20) (t 21)),none),(gt 19 23 (.ld none (t 22)),none),(mt 19 24 0,none),(mt 19 25 7,none),(gt 19 26 (.bin .sub (t 25) (k 1)),none),(gt 19 27 (.iadr 1 (t 24) (t 26)),none),(gt 19 28 (.ld none (t 27)),none),(gt 19 29 (.call 185 [(t 23),(t 28)]),none),(pa 30 19 29,none)]) (.cond (t 30) .skip (.exit 2))) (.seq (.block 3 (.drawn [(m 33 0,none),(m 34 7,none),(m 35 0,none),(m 36 7,none),(bk 37 .sub 36 1,none),(m 38 0,none),(m 39 7,none),(bk 40 .sub 39 1,none),(ia 41 1 38 40,none),(ld 42 41,none),(m 43 0,none),(m 44 7,none),(ia 45 1 43 44,none),(ld 46 45,none),(ia 47 1 33 34,none),(st 3 47 42 0,(some false)),(ia 48 1 35 37,none),(st 3 48 46 0,none)])) (.ops [m 31 7,bk 32 .sub 31 1,m 7 32]))))))) (.ops [m 13 6,bk 14 .add 13 1,m 6 14]))))))
def r179:List NRes:=[]
theorem c179:IsN Tryz.prog 179 3 n179 r179:=isq [] Tryz.func179
def n184:Zai:=(sq [m0 6] (sq [m 11 1,bk 12 .add 11 1,m 7 12] (.seq (sq [mi 8 0] (.block 0 (.loop (.seq (sq [m 13 8,bk 14 .lss 13 5] (.cond (t 14) .skip (.exit 0))) (.seq (.block 1 (.seq (.block 2 (.loop (.seq (.seq (.drawn [(m 17 7,none),(m 18 2,none),(b 19 .lss 17 18,none),(m 20 19,none),(mt 20 21 0,none),(mt 20 22 7,none),(gt 20 23 (.iadr 1 (t 21) (t 22)),none),(gt 20 24 (.ld none (t 23)),none),(mt 20 25 0,none),(mt 20 26 7,none),(gt 20 27 (.bin .sub (t 26) (k 1)),none),(gt 20 28 (.iadr 1 (t 25) (t 27)),none),(gt 20 29 (.ld none (t 28)),none),(gt 20 30 (.call 185 [(t 24),(t 29)]),none),(gt 20 31 (.not (t 30)),none),(pa 32 20 31,none)]) (.cond (t 32) .skip (.exit 2))) (.block 3 (.ops [m 33 7,bk 34 .add 33 1,m 7 34]))))) (.seq (sq [m 35 7,m 36 2,b 37 .eql 35 36] (.cond (t 37) (sq [m1 6] .ret) .skip)) (.seq (sq [m 38 2,m 39 1,b 40 .sub 38 39,bk 41 .lss 40 50] (.cond (t 41) (sq [m0 6] .ret) .skip)) (.seq (.drawn [(m 42 0,none),(m 43 7,none),(m 44 0,none),(m 45 7,none),(bk 46 .sub 45 1,none),(m 47 0,none),(m 48 7,none),(bk 49 .sub 48 1,none),(ia 50 1 47 49,none),(ld 51 50,none),(m 52 0,none),(m 53 7,none),(ia 54 1 52 53,none),(ld 55 54,none),(ia 56 1 42 43,none),(st 3 56 51 0,(some false)),(ia 57 1 44 46,none),(st 3 57 55 0,none)]) (.seq (sq [m 58 7,m 59 1,b 60 .sub 58 59,bk 61 .geq 60 2] (.cond (t 61) (sq [m 62 7,bk 63 .sub 62 1,m 9 63] (.block 4 (.loop (.seq (sq [m 64 9,bk 65 .geq 64 1] (.cond (t 65) .skip (.exit 4))) (.seq (.block 5 (.seq (.seq (.drawn [(m 68 0,none),(m 69 9,none),(ia 70 1 68 69,none),(ld 71 70,none),(m 72 0,none),(m 73 9,none),(bk 74 .sub 73 1,none),(ia 75 1 72 74,none),(ld 76 75,none),(c2 77 185 71 76,none),(o 78 (.not (t 77)),none)]) (.cond (t 78) (.exit 4) .skip)) (.drawn [(m 79 0,none),(m 80 9,none),(m 81 0,none),(m 82 9,none),(bk 83 .sub 82 1,none),(m 84 0,none),(m 85 9,none),(bk 86 .sub 85 1,none),(ia 87 1 84 86,none),(ld 88 87,none),(m 89 0,none),(m 90 9,none),(ia 91 1 89 90,none),(ld 92 91,none),(ia 93 1 79 80,none),(st 3 93 88 0,(some false)),(ia 94 1 81 83,none),(st 3 94 92 0,none)]))) (.ops [m 66 9,bk 67 .sub 66 1,m 9 67])))))) .skip)) (sq [m 95 2,m 96 7,b 97 .sub 95 96,bk 98 .geq 97 2] (.cond (t 98) (sq [m 99 7,bk 100 .add 99 1,m 10 100] (.block 6 (.loop (.seq (sq [m 101 10,m 102 2,b 103 .lss 101 102] (.cond (t 103) .skip (.exit 6))) (.seq (.block 7 (.seq (.seq (.drawn [(m 106 0,none),(m 107 10,none),(ia 108 1 106 107,none),(ld 109 108,none),(m 110 0,none),(m 111 10,none),(bk 112 .sub 111 1,none),(ia 113 1 110 112,none),(ld 114 113,none),(c2 115 185 109 114,none),(o 116 (.not (t 115)),none)]) (.cond (t 116) (.exit 6) .skip)) (.drawn [(m 117 0,none),(m 118 10,none),(m 119 0,none),(m 120 10,none),(bk 121 .sub 120 1,none),(m 122 0,none),(m 123 10,none),(bk 124 .sub 123 1,none),(ia 125 1 122 124,none),(ld 126 125,none),(m 127 0,none),(m 128 10,none),(ia 129 1 127 128,none),(ld 130 129,none),(ia 131 1 117 118,none),(st 3 131 126 0,(some false)),(ia 132 1 119 121,none),(st 3 132 130 0,none)]))) (.ops [m 104 10,bk 105 .add 104 1,m 10 105])))))) .skip)))))))) (.ops [m 15 8,bk 16 .add 15 1,m 8 16])))))) (sq [m0 6] .ret))))
def r184:List NRes:=[(.slot 6)]
theorem c184:IsN Tryz.prog 184 3 n184 r184:=isq [] Tryz.func184
def n189:Zai:=(sq [mi 2 0] (.seq (sq [m 3 0,o 4 (.bin .geq (t 3) (.const (.int .u64 4294967296)))] (.cond (t 4) (sq [m 5 0,o 6 (.pur (.binOp .shr 144 (t 5) (.const (.int .u64 32)) 188) 144),m 0 6] (.ops [mi 2 32])) .skip)) (.seq (sq [m 7 0,o 8 (.bin .geq (t 7) (.const (.int .u64 65536)))] (.cond (t 8) (sq [m 9 0,o 10 (.pur (.binOp .shr 144 (t 9) (.const (.int .u64 16)) 188) 144),m 0 10] (.ops [m 11 2,bk 12 .add 11 16,m 2 12])) .skip)) (.seq (sq [m 13 0,o 14 (.bin .geq (t 13) (.const (.int .u64 256)))] (.cond (t 14) (sq [m 15 0,o 16 (.pur (.binOp .shr 144 (t 15) (.const (.int .u64 8)) 188) 144),m 0 16] (.ops [m 17 2,bk 18 .add 17 8,m 2 18])) .skip)) (sq [m 19 2,m 20 0,o 21 (.pur (.convert 144 5 (t 20)) 5),o 22 (.raw (.index 9 (.const (.string (.mk #[0,1,2,2,3,3,3,3,4,4,4,4,4,4,4,4,5,5,5,5,5,5,5,5,5,5,5,5,5,5,5,5,6,6,6,6,6,6,6,6,6,6,6,6,6,6,6,6,6,6,6,6,6,6,6,6,6,6,6,6,6,6,6,6,7,7,7,7,7,7,7,7,7,7,7,7,7,7,7,7,7,7,7,7,7,7,7,7,7,7,7,7,7,7,7,7,7,7,7,7,7,7,7,7,7,7,7,7,7,7,7,7,7,7,7,7,7,7,7,7,7,7,7,7,7,7,7,7,8,8,8,8,8,8,8,8,8,8,8,8,8,8,8,8,8,8,8,8,8,8,8,8,8,8,8,8,8,8,8,8,8,8,8,8,8,8,8,8,8,8,8,8,8,8,8,8,8,8,8,8,8,8,8,8,8,8,8,8,8,8,8,8,8,8,8,8,8,8,8,8,8,8,8,8,8,8,8,8,8,8,8,8,8,8,8,8,8,8,8,8,8,8,8,8,8,8,8,8,8,8,8,8,8,8,8,8,8,8,8,8,8,8,8,8,8,8,8,8,8,8,8,8,8,8,8,8]))) (t 21)) 5),o 23 (.pur (.convert 5 3 (t 22)) 3),b 24 .add 19 23,m 2 24] .ret)))))
def r189:List NRes:=[(.slot 2)]
theorem c189:IsN Tryz.prog 189 1 n189 r189:=isq [] Tryz.func189
def n203:Zai:=(sq [o 2 (.mov (.const (.int .u64 0)))] (sq [m 3 0,o 4 (.pur (.convert 3 188 (t 3)) 188),c1 5 149 4,o 6 (.pur (.binOp .shl 188 (.const (.int .u64 1)) (t 5) 3) 188),m 2 6] .ret))
def r203:List NRes:=[(.slot 2)]
theorem c203:IsN Tryz.prog 203 1 n203 r203:=isq [] Tryz.func203
def n215:Zai:=(sq [mi 8 0,mi 9 0] (.seq (.seq (.drawn [(m 10 0,none),(m 11 2,none),(ia 12 1 10 11,none),(ld 13 12,none),(m 14 0,none),(m 15 1,none),(ia 16 1 14 15,none),(ld 17 16,none),(c2 18 185 13 17,none)]) (.cond (t 18) (sq [m 19 3,o 20 (.pur (.nilCheck (t 19)) 0),ld 21 20,bk 22 .add 21 1,o 23 (.pur (.nilCheck (t 19)) 0),st 3 23 22 0] (sq [m 24 2,m 25 1,m 8 24,m 9 25] .ret)) .skip)) (sq [m 26 1,m 27 2,m 8 26,m 9 27] .ret)))
def r215:List NRes:=[(.slot 8),(.slot 9)]
theorem c215:IsN Tryz.prog 215 4 n215 r215:=isq [] Tryz.func215
end Go.Proofs
end
section
open Go Go.LL Go.Z
namespace Go.Proofs
def n21:Zai:=(sq [o 1 (.lbox 1 [1] (t 0)),mi 2 0,mi 3 0] (sq [l 7 1 4 1,o 8 (.call 89 [(t 7),(.func 90)]),m 6 8,x 9 6 0,x 10 6 1,o 4 (.lzero 4 [4] [z0,z0,s0,s0,s0]),ls 4 5 4 9,m 5 10] (.seq (sq [m 11 5,bk 12 .neq 11 0] (.cond (t 12) (sq [m 13 5,mi 2 0,m 3 13] .ret) .skip)) (sq [l 14 4 5 4,o 15 (.call 91 [(t 14),(.func 92)]),m 2 15,mi 3 0] .ret))))
def r21:List NRes:=[(.slot 2),(.slot 3)]
theorem c21:IsN Tryz.prog 21 1 n21 r21:=isq [(1,1),(4,4)] Tryz.func21
def n26:Zai:=(sq [o 1 (.raw (.box 25 (t 0)) 0),o 2 (.mov (.const s0)),mi 3 0] (sq [lm 9 4 1,o 10 (.call 89 [(t 9),(.func 90)]),m 8 10,x 11 8 0,x 12 8 1,o 4 (.raw (.alloc 112) 0),st 112 4 11 0,m 5 12] (.seq (sq [m 13 5,bk 14 .neq 13 0] (.cond (t 14) (sq [m 15 5,o 2 (.mov (.const s0)),m 3 15] .ret) .skip)) (sq [o 6 (.raw (.alloc 38) 0)] (.seq (sq [o 16 (.fadr 0 (t 4)),lm 17 4 16,o 18 (.raw (.makeFunc (.func 95) #[(t 17)] #[]) 126)] (.block 0 (.rfun (t 18) [19] (.ops [o 7 (.raw (.alloc 70) 0),st 70 7 19 0]) (.block 1 (sq [o 20 (.fadr 4 (t 4)),ld 21 20,o 22 (.raw (.makeFunc (.func 97) #[] #[(t 7)]) 117),c2 23 96 21 22] (.cond (t 23) (.ops [ld 24 6,lm 25 2 7,o 26 (.buildS 70 1 [z0,z0] [(0,(2,(t 25)))]),o 27 (.raw (.call (.mk (.builtin .append) #[(t 24),(t 26)] #[38,38])) 38),st 38 6 27 0]) .skip)))))) (sq [ld 28 6,m 2 28,mi 3 0] .ret))))))
def r26:List NRes:=[(.slot 2),(.slot 3)]
theorem c26:IsN Tryz.prog 26 1 n26 r26:=isq [] Tryz.func26
def n31:Zai:=(sq [o 1 (.lbox 1 [1] (t 0)),mi 2 0,mi 3 0] (sq [l 7 1 4 1,o 8 (.call 89 [(t 7),(.func 90)]),m 6 8,x 9 6 0,x 10 6 1,o 4 (.lzero 4 [4,15] [z0,z0,s0,s0,s0]),ls 4 5 4 9,m 5 10] (.seq (sq [m 11 5,bk 12 .neq 11 0] (.cond (t 12) (sq [m 13 5,mi 2 0,m 3 13] .ret) .skip)) (sq [l 14 4 5 4,f 15 0 4,l 16 4 4 15,o 17 (.raw (.makeFunc (.func 103) #[(t 16)] #[]) 117),c2 18 91 14 17,m 2 18,mi 3 0] .ret))))
def r31:List NRes:=[(.slot 2),(.slot 3)]
theorem c31:IsN Tryz.prog 31 1 n31 r31:=isq [(1,1),(4,4),(15,4)] Tryz.func31
def n41:Zai:=(sq [o 2 (.lbox 2 [2,13,19] (t 0)),o 3 (.lbox 3 [3] (t 1)),o 4 (.lzero 4 [4] [z0,z0,s0,s0]),mi 5 0] (.seq (sq [l 7 2 4 2,c1 8 78 7,m 6 8] (sq [m 9 6,bk 10 .neq 9 0] (.cond (t 10) (sq [o 11 (.build [z0,z0,s0,s0] []),m 12 6,ls 4 4 4 11,m 5 12] .ret) .skip))) (.seq (.drawn [(f 13 3 2,none),(ln 14 2 13,none),(l 16 3 3 3,none),(u (.build [z0,z0,z0] [(0,(3,(t 16)))]),none),(c1 15 125 14,(some false)),(o 17 (.buildS 51 1 [z0,z0,z0] [(0,(3,(t 16)))]),(some false)),(o 18 (.raw (.call (.mk (.builtin .append) #[(t 15),(t 17)] #[23,23])) 23),none),(f 19 3 2,none),(ls 2 1 19 18,none)]) (sq [l 20 2 4 2,c1 21 126 20,x 22 21 0,x 23 21 1,ls 4 4 4 22,m 5 23] .ret))))
def r41:List NRes:=[(.var 4 4 (some 4)),(.slot 5)]
theorem c41:IsN Tryz.prog 41 2 n41 r41:=isq [(2,2),(3,3),(4,4),(13,2),(19,2)] Tryz.func41
def n46:Zai:=(sq [o 2 (.lbox 2 [2,14,20] (t 0)),o 4 (.lzero 4 [4] [z0,z0,s0,s0]),mi 5 0] (.seq (sq [l 7 2 4 2,c1 8 78 7,m 6 8] (sq [m 9 6,bk 10 .neq 9 0] (.cond (t 10) (sq [o 11 (.build [z0,z0,s0,s0] []),m 12 6,ls 4 4 4 11,m 5 12] .ret) .skip))) (.seq (sq [m 13 1,f 14 1 2,ln 15 2 14,o 16 (.call 112 [(t 13),(k 0),(t 15)]),o 17 (.not (t 16))] (.cond (t 17) (sq [o 18 (.build [z0,z0,s0,s0] []),ls 4 4 4 18,mi 5 1] .ret) .skip)) (sq [m 19 1,f 20 1 2,ls 2 1 20 19] (sq [l 21 2 4 2,c1 22 126 21,x 23 22 0,x 24 22 1,ls 4 4 4 23,m 5 24] .ret)))))
def r46:List NRes:=[(.var 4 4 (some 4)),(.slot 5)]
theorem c46:IsN Tryz.prog 46 2 n46 r46:=isq [(2,2),(4,4),(14,2),(20,2)] Tryz.func46
def n51:Zai:=(sq [o 2 (.lbox 2 [2,8] (t 0)),o 3 (.lbox 3 [3] (t 1)),o 4 (.lzero 4 [4] [z0,z0,s0,s0])] (sq [l 6 2 4 2,o 5 (.lzero 5 [5,14] [z0,z0,s0,s0]),ls 5 4 5 6] (.seq (.drawn [(f 8 3 2,none),(ln 9 2 8,none),(l 11 3 3 3,none),(u (.build [z0,z0,z0] [(0,(3,(t 11)))]),none),(o 7 (.raw (.buildSlice 23 0 #[]) 23),(some false)),(u (.build [z0,z0,z0] [(0,(3,(t 11)))]),none),(o 10 (.raw (.call (.mk (.builtin .append) #[(t 7),(t 9)] #[23,23])) 23),(some false)),(o 12 (.buildS 51 1 [z0,z0,z0] [(0,(3,(t 11)))]),(some false)),(o 13 (.raw (.call (.mk (.builtin .append) #[(t 10),(t 12)] #[23,23])) 23),none),(f 14 3 5,none),(ls 5 1 14 13,none)]) (sq [l 15 5 4 5,ls 4 4 4 15] .ret))))
def r51:List NRes:=[(.var 4 4 (some 4))]
theorem c51:IsN Tryz.prog 51 2 n51 r51:=isq [(2,2),(3,3),(4,4),(5,5),(8,2),(14,5)] Tryz.func51
def n86:Zai:=(sq [m0 4] (sq [m 5 0,m 6 1,c2 7 25 5 6,m 4 7] .ret))
def r86:List NRes:=[(.slot 4)]
theorem c86:IsN Tryz.prog 86 2 n86 r86:=isq [] Tryz.func86
def n91:Zai:=(sq [o 2 (.lbox 2 [2,8,25] (t 0)),mi 4 0] (sq [mi 5 0] (.seq (sq [f 8 4 2,ln 9 2 8,le 10 9,mi 11 0] (.block 0 (.loop (sq [b 12 .lss 11 10] (.seq (.cond (t 12) .skip (.exit 0)) (.seq (.block 1 (sq [ia 13 6 9 11,lm 14 6 13,o 7 (.lzero 7 [7] [z0,z0,z0,z0,z0,z0]),ls 7 6 7 14] (sq [m 15 1,l 16 7 6 7,o 17 (.raw (.call (.mk (.value (t 15)) #[(t 16)] #[121])) 4)] (.cond (t 17) (.ops [m 18 5,bk 19 .add 18 1,m 5 19]) .skip)))) (.ops [bk 20 .add 11 1,m 11 20]))))))) (.seq (sq [m 21 5] (.block 2 (sq [bk 23 .eql 21 0,m 22 23] (.cond (t 22) (sq [mi 4 2] .ret) (sq [f 25 4 2,ln 26 2 25,le 27 26,b 28 .eql 21 27,m 24 28] (.cond (t 24) (sq [mi 4 1] .ret) .skip)))))) (sq [mi 4 0] .ret)))))
def r91:List NRes:=[(.slot 4)]
theorem c91:IsN Tryz.prog 91 2 n91 r91:=isq [(2,2),(7,7),(8,2),(25,2)] Tryz.func91
def n96:Zai:=(sq [m0 4] (sq [m 5 0,m 6 1,c2 7 147 5 6,bk 8 .geq 7 0,m 4 8] .ret))
def r96:List NRes:=[(.slot 4)]
theorem c96:IsN Tryz.prog 96 2 n96 r96:=isq [] Tryz.func96
def n101:Zai:=(sq [m 3 0,le 4 3,m 2 4] (.ops [m 5 0,m 6 2,m 7 2,o 8 (.pur (.convert 3 188 (t 7)) 188),c1 9 149 8,o 10 (.call 148 [(t 5),(k 0),(t 6),(t 9)])]))
def r101:List NRes:=[]
theorem c101:IsN Tryz.prog 101 1 n101 r101:=isq [] Tryz.func101
def n106:Zai:=(sq [mi 6 0] (.seq (sq [m 9 2,le 10 9,mi 11 0] (.block 0 (.loop (sq [b 12 .lss 11 10] (.seq (.cond (t 12) .skip (.exit 0)) (.seq (.block 1 (sq [ia 13 1 9 11,ld 14 13,m 8 14] (sq [m 15 0,m 16 8,m 17 1,o 18 (.raw (.call (.mk (.value (t 15)) #[(t 16),(t 17)] #[3,3])) 4)] (.cond (t 18) (.ops [m 19 8,m 1 19]) .skip)))) (.ops [bk 20 .add 11 1,m 11 20]))))))) (sq [m 21 1,m 6 21] .ret)))
def r106:List NRes:=[(.slot 6)]
theorem c106:IsN Tryz.prog 106 3 n106 r106:=isq [] Tryz.func106
def n116:Zai:=(sq [o 4 (.lbox 4 [4] (t 1)),o 6 (.lzero 6 [6] [z0,z0])] (.seq (sq [m 9 2,le 10 9,mi 11 0] (.block 0 (.loop (sq [b 12 .lss 11 10] (.seq (.cond (t 12) .skip (.exit 0)) (.seq (.block 1 (sq [ia 13 2 9 11,lm 14 2 13,o 8 (.lzero 8 [8] [z0,z0]),ls 8 2 8 14] (sq [m 15 0,l 16 8 2 8,l 17 4 2 4,o 18 (.raw (.call (.mk (.value (t 15)) #[(t 16),(t 17)] #[153,153])) 4)] (.cond (t 18) (.ops [l 19 8 2 8,ls 4 2 4 19]) .skip)))) (.ops [bk 20 .add 11 1,m 11 20]))))))) (sq [l 21 4 2 4,ls 6 2 6 21] .ret)))
def r116:List NRes:=[(.var 6 6 (some 2))]
theorem c116:IsN Tryz.prog 116 3 n116 r116:=isq [(4,4),(6,6),(8,8)] Tryz.func116
def n121:Zai:=(sq [o 6 (.mov (.const s0))] (.seq (sq [m 9 2,le 10 9,mi 11 0] (.block 0 (.loop (sq [b 12 .lss 11 10] (.seq (.cond (t 12) .skip (.exit 0)) (.seq (.block 1 (sq [ia 13 1 9 11,ld 14 13,m 8 14] (sq [m 15 0,m 16 8,m 17 1,o 18 (.raw (.call (.mk (.value (t 15)) #[(t 16),(t 17)] #[34,34])) 4)] (.cond (t 18) (.ops [m 19 8,m 1 19]) .skip)))) (.ops [bk 20 .add 11 1,m 11 20]))))))) (sq [m 21 1,m 6 21] .ret)))
def r121:List NRes:=[(.slot 6)]
theorem c121:IsN Tryz.prog 121 3 n121 r121:=isq [] Tryz.func121
def n126:Zai:=(sq [o 1 (.lbox 1 [1,16,19,22,23] (t 0)),o 2 (.lzero 2 [2] [z0,z0,s0,s0]),mi 3 0] (.seq (sq [l 5 1 4 1,c1 6 78 5,m 4 6] (sq [m 7 4,bk 8 .neq 7 0] (.cond (t 8) (sq [o 9 (.build [z0,z0,s0,s0] []),m 10 4,ls 2 4 2 9,m 3 10] .ret) .skip))) (.seq (sq [l 11 1 4 1,o 12 (.build [z0,z0,s0,s0] [(0,(4,(t 11)))]),c1 13 119 12,o 14 (.not (t 13))] (.cond (t 14) (sq [o 15 (.build [z0,z0,s0,s0] []),ls 2 4 2 15,mi 3 9] .ret) .skip)) (.seq (.drawn [(f 16 2 1,none),(ln 17 1 16,none),(f 19 3 1,none),(ln 20 1 19,none),(c1 18 129 17,(some false)),(f 22 2 1,none),(c1 21 125 20,(some false)),(ls 1 1 22 18,none),(f 23 3 1,none),(ls 1 1 23 21,none)]) (sq [l 24 1 4 1,ls 2 4 2 24,mi 3 0] .ret)))))
def r126:List NRes:=[(.var 2 2 (some 4)),(.slot 3)]
theorem c126:IsN Tryz.prog 126 1 n126 r126:=isq [(1,1),(2,2),(16,1),(19,1),(22,1),(23,1)] Tryz.func126
def n131:Zai:=(sq [o 4 (.lbox 4 [4,12,13] (t 0)),o 6 (.raw (.box 3 (t 2)) 0),o 7 (.raw (.box 3 (t 3)) 0),mi 8 0] (.seq (.block 0 (sq [m 10 1,le 11 10,f 12 0 4,f 13 2 12,ln 14 4 13,le 15 14,b 16 .neq 11 15,m 9 16] (.cond (t 9) (sq [mi 8 2] .ret) (sq [m 18 1,o 19 (.raw (.makeFunc (.func 173) #[] #[(t 6),(t 7)]) 128),c2 20 172 18 19,m 17 20] (.cond (t 17) (sq [mi 8 1] .ret) .skip))))) (sq [mi 8 0] .ret)))
def r131:List NRes:=[(.slot 8)]
theorem c131:IsN Tryz.prog 131 4 n131 r131:=isq [(4,4),(12,4),(13,4)] Tryz.func131
def n146:Zai:=(sq [o 2 (.mov (.const s0))] (sq [m 3 0,o 4 (.call 178 [(.const s0),(t 3)]),m 2 4] .ret))
def r146:List NRes:=[(.slot 2)]
theorem c146:IsN Tryz.prog 146 1 n146 r146:=isq [] Tryz.func146
def n180:Zai:=(sq [m 11 1,m 6 11] (sq [mi 7 0] (sq [m 12 2,m 13 1,b 14 .sub 12 13,m 8 14] (.seq (sq [m 15 8,bk 16 .sub 15 1,o 17 (.pur (.binOp .quo 3 (t 16) (k 2) 3) 3),m 9 17] (.block 0 (.loop (.seq (sq [m 18 9,bk 19 .geq 18 0] (.cond (t 19) .skip (.exit 0))) (.seq (.block 1 (.ops [m 22 0,m 23 9,m 24 8,m 25 6,o 26 (.call 202 [(t 22),(t 23),(t 24),(t 25)])])) (.ops [m 20 9,bk 21 .sub 20 1,m 9 21])))))) (sq [m 27 8,bk 28 .sub 27 1,m 10 28] (.block 2 (.loop (.seq (sq [m 29 10,bk 30 .geq 29 0] (.cond (t 30) .skip (.exit 2))) (.seq (.block 3 (.seq (.drawn [(m 33 0,none),(m 34 6,none),(m 35 0,none),(m 36 6,none),(m 37 10,none),(b 38 .add 36 37,none),(m 39 0,none),(m 40 6,none),(m 41 10,none),(b 42 .add 40 41,none),(ia 43 1 39 42,none),(ld 44 43,none),(m 45 0,none),(m 46 6,none),(ia 47 1 45 46,none),(ld 48 47,none),(ia 49 1 33 34,none),(st 3 49 44 0,(some false)),(ia 50 1 35 38,none),(st 3 50 48 0,none)]) (.ops [m 51 0,m 52 7,m 53 10,m 54 6,o 55 (.call 202 [(t 51),(t 52),(t 53),(t 54)])]))) (.ops [m 31 10,bk 32 .sub 31 1,m 10 32]))))))))))
def r180:List NRes:=[]
theorem c180:IsN Tryz.prog 180 3 n180 r180:=isq [] Tryz.func180
def n185:Zai:=(sq [m0 4] (sq [m 5 0,c1 6 207 5,m 7 6,mt 7 8 1,gt 7 9 (.call 207 [(t 8)]),gt 7 10 (.not (t 9)),pa 11 7 10,m 12 11,mf 12 13 0,mf 12 14 1,gf 12 15 (.bin .lss (t 13) (t 14)),po 16 12 15,m 4 16] .ret))
def r185:List NRes:=[(.slot 4)]
theorem c185:IsN Tryz.prog 185 2 n185 r185:=isq [] Tryz.func185
def n199:Zai:=(sq [mi 4 0] (sq [m 7 0,c1 8 207 7,m 5 8] (sq [m 9 1,c1 10 207 9,m 6 10] (.seq (sq [m 11 5] (.cond (t 11) (.seq (sq [m 12 6] (.cond (t 12) (sq [mi 4 0] .ret) .skip)) (sq [o 4 (.mov (.const (.int .i64 (Int.negSucc 0))))] .ret)) .skip)) (.seq (sq [m 13 6] (.cond (t 13) (sq [mi 4 1] .ret) .skip)) (.seq (sq [m 14 0,m 15 1,b 16 .lss 14 15] (.cond (t 16) (sq [o 4 (.mov (.const (.int .i64 (Int.negSucc 0))))] .ret) .skip)) (.seq (sq [m 17 0,m 18 1,b 19 .gtr 17 18] (.cond (t 19) (sq [mi 4 1] .ret) .skip)) (sq [mi 4 0] .ret))))))))
def r199:List NRes:=[(.slot 4)]
theorem c199:IsN Tryz.prog 199 2 n199 r199:=isq [] Tryz.func199
def n204:Zai:=(sq [o 2 (.mov (.const (.int .u64 0)))] (.seq (.drawn [(m 3 0,none),(o 4 (.pur (.nilCheck (t 3)) 0),none),(ld 5 4,none),(m 6 0,none),(o 7 (.pur (.nilCheck (t 6)) 0),none),(ld 8 7,none),(o 9 (.pur (.binOp .shl 235 (t 8) (.const (.int .u64 13)) 188) 235),none),(o 10 (.pur (.binOp .xor 235 (t 5) (t 9) 235) 235),none),(o 11 (.pur (.nilCheck (t 3)) 0),none),(st 235 11 10 0,none)]) (.seq (.drawn [(m 12 0,none),(o 13 (.pur (.nilCheck (t 12)) 0),none),(ld 14 13,none),(m 15 0,none),(o 16 (.pur (.nilCheck (t 15)) 0),none),(ld 17 16,none),(o 18 (.pur (.binOp .shr 235 (t 17) (.const (.int .u64 7)) 188) 235),none),(o 19 (.pur (.binOp .xor 235 (t 14) (t 18) 235) 235),none),(o 20 (.pur (.nilCheck (t 12)) 0),none),(st 235 20 19 0,none)]) (.seq (.drawn [(m 21 0,none),(o 22 (.pur (.nilCheck (t 21)) 0),none),(ld 23 22,none),(m 24 0,none),(o 25 (.pur (.nilCheck (t 24)) 0),none),(ld 26 25,none),(o 27 (.pur (.binOp .shl 235 (t 26) (.const (.int .u64 17)) 188) 235),none),(o 28 (.pur (.binOp .xor 235 (t 23) (t 27) 235) 235),none),(o 29 (.pur (.nilCheck (t 21)) 0),none),(st 235 29 28 0,none)]) (sq [m 30 0,o 31 (.pur (.nilCheck (t 30)) 0),ld 32 31,m 2 32] .ret)))))
def r204:List NRes:=[(.slot 2)]
theorem c204:IsN Tryz.prog 204 1 n204 r204:=isq [] Tryz.func204
def n232:Zai:=(sq [o 1 (.lbox 1 [1,3,4,9,10] (t 0)),mi 2 0] (.seq (sq [f 3 0 1,f 4 0 3,ln 5 1 4,o 6 (.call 112 [(t 5),(k 0),(k 99)]),o 7 (.not (t 6)),m 8 7,gf 8 9 (.lfadr 0 1),gf 8 10 (.lfadr 1 9),gf 8 11 (.lld 1 none 10),gf 8 12 (.call 112 [(t 11),(k 0),(k 3)]),gf 8 13 (.not (t 12)),po 14 8 13] (.cond (t 14) (sq [mi 2 1] .ret) .skip)) (sq [mi 2 0] .ret)))
def r232:List NRes:=[(.slot 2)]
theorem c232:IsN Tryz.prog 232 1 n232 r232:=isq [(1,1),(3,1),(4,1),(9,1),(10,1)] Tryz.func232
end Go.Proofs
end
section
open Go Go.LL
namespace Go.Proofs
section
variable  {P:Prg}[Tz P]{H:Hp}
set_option maxHeartbeats 400000
theorem Zby (n lo hi:Int):LL.Zag P 112 #[vi n,vi lo,vi hi] H fun v H'=>H=H'∧v=vb (decide (lo<=n∧n<=hi)):=by
 refine IsN.m (isn c112) (args:=[vi n,vi lo,vi hi]) rfl ?_
 unfold n112
 refine wkT ?_
 refine wiT (fun h1=>?_) (fun h1=>?_)<;>refine wkT ?_<;>exact⟨rfl,by simp[Zbe,h1]⟩
theorem Zm6 (n lo hi:Int):LL.Zag P 53 #[vi n,vi lo,vi hi] H fun v H'=>H=H'∧v=vb (decide (lo<=n∧n<=hi)):=by
 refine IsN.m (isn c53) (args:=[vi n,vi lo,vi hi]) rfl ?_
 unfold n53
 refine wkT ?_
 refine wiT (fun h1=>?_) (fun h1=>?_)<;>refine wkT ?_<;>exact⟨rfl,by simp[Zbe,h1]⟩
theorem Zk8 (m n:Int):LL.Zag P 107 #[vi m,vi n] H fun v H'=>H=H'∧v=vb (decide (n<m)):=by
 refine IsN.m (isn c107) (args:=[vi m,vi n]) rfl ?_
 unfold n107
 refine wkT ?_
 exact⟨rfl,rfl⟩
theorem Zmt (m n:Int):LL.Zag P 108 #[vi m,vi n] H fun v H'=>H=H'∧v=vb (decide (m<n)):=by
 refine IsN.m (isn c108) (args:=[vi m,vi n]) rfl ?_
 unfold n108
 refine wkT ?_
 exact⟨rfl,rfl⟩
theorem Zfl (a b lo hi:Int)(hst:P.still H.gh=false):LL.Zag P 128 #[.agg #[vi a,vi b],vi lo,vi hi] H fun v H'=>H=H'∧v=vb (decide (lo<=a∧a<=b∧b<=hi)):=by
 refine IsN.m (isn c128) (args:=[.agg #[vi a,vi b],vi lo,vi hi]) rfl ?_
 unfold n128
 refine wkT ?_
 refine wiT (fun h1=>?_) (fun h1=>?_)<;>refine wkT ?_
 refine wiT (fun h2=>?_) (fun h2=>?_)<;>refine wkT ?_<;>exact⟨rfl,by simp[Zbe,h1,h2]⟩
 exact⟨rfl,by simp[Zbe,h1]⟩
end
end Go.Proofs
end
