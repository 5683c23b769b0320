import Derived.Test.YthmnpenamnoniaaGreatDoorP22
import Derived.Test.YthmnpenamnoniaaGreatDoorP23
import Derived.Test.YthmnpenamnoniaaGreatDoorP24
import Derived.Test.YthmnpenamnoniaaGreatDoorP25
set_option linter.all false
section
open Go Go.LL Go.Z
namespace Go.Proofs
def n53:Zaj:=(sq [m0 6] (sq [m 7 1,m 8 0,b 9 .leq 7 8,m 10 9,mt 10 11 0,mt 10 12 2,gt 10 13 (.bin .leq (t 11) (t 12)),pa 14 10 13,m 6 14] .ret))
def r53:List NRes:=[(.slot 6)]
theorem c53:IsN Tryz.prog 10 3 n53 r53:=isq [] Tryz.func10
def n130:Zaj:=(sq [o 3 (.lbox 3 [3,8,12,14,19] (t 0)),m0 6] (sq [m 7 1,f 8 0 3,ln 9 3 8,b 10 .leq 7 9,m 11 10,gt 11 12 (.lfadr 0 3),gt 11 13 (.lld 3 none 12),gt 11 14 (.lfadr 1 3),gt 11 15 (.lld 3 none 14),gt 11 16 (.bin .leq (t 13) (t 15)),pa 17 11 16,m 18 17,gt 18 19 (.lfadr 1 3),gt 18 20 (.lld 3 none 19),mt 18 21 2,gt 18 22 (.bin .leq (t 20) (t 21)),pa 23 18 22,m 6 23] .ret))
def r130:List NRes:=[(.slot 6)]
theorem c130:IsN Tryz.prog 15 3 n130 r130:=isq [(3,3),(8,3),(12,3),(14,3),(19,3)] Tryz.func15
def n85:Zaj:=(sq [o 0 (.lzero 0 [0] [z0,z0,s0,s0])] (sq [o 1 (.call 42 [(k 4)]),o 2 (.call 49 [(k 0),(k 12)]),o 3 (.build [z0,z0,z0,z0,z0] [(0,(2,(t 1))),(2,(2,(t 2))),(4,(1,(k 4)))]),o 4 (.call 49 [(k 5),(k 6)]),o 5 (.call 49 [(k 1),(k 12)]),o 6 (.build [z0,z0,z0,z0,z0] [(0,(2,(t 4))),(2,(2,(t 5))),(4,(1,(k 4)))]),o 7 (.call 42 [(k 4)]),o 8 (.call 49 [(k 0),(k 10)]),o 9 (.build [z0,z0,z0,z0,z0] [(0,(2,(t 7))),(2,(2,(t 8))),(4,(1,(k 4)))]),o 10 (.buildS 110 3 [z0,z0,z0,z0,z0,z0,z0,z0,z0,z0,z0,z0,z0,z0,z0] [(0,(5,(t 3))),(5,(5,(t 6))),(10,(5,(t 9)))]),o 11 (.call 49 [(k 6),(k 7)]),o 12 (.build [z0,z0,z0] [(0,(1,(k 2))),(1,(2,(t 11)))]),o 13 (.buildS 101 1 [z0,z0,z0] [(0,(3,(t 12)))]),o 14 (.build [z0,z0,s0,s0] [(0,(1,(k 10))),(1,(1,(k 1))),(2,(1,(t 10))),(3,(1,(t 13)))]),ls 0 4 0 14] .ret))
def r85:List NRes:=[(.var 0 0 (some 4))]
theorem c85:IsN Tryz.prog 31 0 n85 r85:=isq [(0,0)] Tryz.func31
def n29:Zaj:=(sq [o 2 (.lbox 2 [2] (t 0)),o 3 (.raw (.box 3 (t 1)) 0),o 4 (.mov (.const s0)),mi 5 0] (sq [l 12 2 4 2,o 13 (.raw (.makeFunc (.func 96) #[] #[(t 3)]) 140),c2 14 64 12 13,m 11 14,x 15 11 0,x 16 11 1,o 6 (.lzero 6 [6,20,28] [z0,z0,s0,s0,s0]),ls 6 5 6 15,m 7 16] (.seq (sq [m 17 7,bk 18 .neq 17 0] (.cond (t 18) (sq [m 19 7,o 4 (.mov (.const s0)),m 5 19] .ret) .skip)) (sq [o 8 (.mov (.const s0))] (.seq (sq [f 20 4 6,ln 21 6 20,le 22 21,mi 23 0] (.block 0 (.loop (sq [b 24 .lss 23 22] (.seq (.cond (t 24) .skip (.exit 0)) (.seq (.block 1 (sq [ia 25 6 21 23,lm 26 6 25,o 10 (.lzero 10 [10] [z0,z0,z0,z0,z0,z0]),ls 10 6 10 26] (.drawn [(m 27 8,none),(f 28 0 6,none),(l 29 6 4 28,none),(l 30 10 6 10,none),(ld 32 3,none),(c2 31 54 29 30,(some true)),(o 33 (.raw (.index 115 (t 31) (t 32)) 3),(some false)),(o 34 (.buildS 3 1 [z0] [(0,(1,(t 33)))]),(some false)),(o 35 (.raw (.call (.mk (.builtin .append) #[(t 27),(t 34)] #[29,29])) 29),none),(m 8 35,none)]))) (.ops [bk 36 .add 23 1,m 23 36]))))))) (sq [m 37 8,c1 38 98 37] (sq [m 39 8,c1 40 92 39,m 4 40,mi 5 0] .ret)))))))
def r29:List NRes:=[(.slot 4),(.slot 5)]
theorem c29:IsN Tryz.prog 36 2 n29 r29:=isq [(2,2),(6,6),(10,10),(20,6),(28,6)] Tryz.func36
def n41:Zaj:=(sq [o 2 (.lbox 2 [2,13,19] (t 0)),o 3 (.lbox 3 [3] (t 1)),o 4 (.lzero 4 [4] [z0,z0,s0,s0]),mi 5 0] (.seq (sq [l 7 2 4 2,c1 8 89 7,m 6 8] (sq [m 9 6,bk 10 .neq 9 0] (.cond (t 10) (sq [o 11 (.build [z0,z0,s0,s0] []),m 12 6,ls 4 4 4 11,m 5 12] .ret) .skip))) (.seq (.drawn [(f 13 3 2,none),(ln 14 2 13,none),(l 16 3 3 3,none),(u (.build [z0,z0,z0] [(0,(3,(t 16)))]),none),(c1 15 111 14,(some false)),(o 17 (.buildS 101 1 [z0,z0,z0] [(0,(3,(t 16)))]),(some false)),(o 18 (.raw (.call (.mk (.builtin .append) #[(t 15),(t 17)] #[23,23])) 23),none),(f 19 3 2,none),(ls 2 1 19 18,none)]) (sq [l 20 2 4 2,c1 21 112 20,x 22 21 0,x 23 21 1,ls 4 4 4 22,m 5 23] .ret))))
def r41:List NRes:=[(.var 4 4 (some 4)),(.slot 5)]
theorem c41:IsN Tryz.prog 41 2 n41 r41:=isq [(2,2),(3,3),(4,4),(13,2),(19,2)] Tryz.func41
def n51:Zaj:=(sq [o 2 (.lbox 2 [2,8] (t 0)),o 3 (.lbox 3 [3] (t 1)),o 4 (.lzero 4 [4] [z0,z0,s0,s0])] (sq [l 6 2 4 2,o 5 (.lzero 5 [5,14] [z0,z0,s0,s0]),ls 5 4 5 6] (.seq (.drawn [(f 8 3 2,none),(ln 9 2 8,none),(l 11 3 3 3,none),(u (.build [z0,z0,z0] [(0,(3,(t 11)))]),none),(o 7 (.raw (.buildSlice 23 0 #[]) 23),(some false)),(u (.build [z0,z0,z0] [(0,(3,(t 11)))]),none),(o 10 (.raw (.call (.mk (.builtin .append) #[(t 7),(t 9)] #[23,23])) 23),(some false)),(o 12 (.buildS 101 1 [z0,z0,z0] [(0,(3,(t 11)))]),(some false)),(o 13 (.raw (.call (.mk (.builtin .append) #[(t 10),(t 12)] #[23,23])) 23),none),(f 14 3 5,none),(ls 5 1 14 13,none)]) (sq [l 15 5 4 5,ls 4 4 4 15] .ret))))
def r51:List NRes:=[(.var 4 4 (some 4))]
theorem c51:IsN Tryz.prog 46 2 n51 r51:=isq [(2,2),(3,3),(4,4),(5,5),(8,2),(14,5)] Tryz.func46
def n91:Zaj:=(sq [o 2 (.lbox 2 [2,8,25] (t 0)),mi 4 0] (sq [mi 5 0] (.seq (sq [f 8 4 2,ln 9 2 8,le 10 9,mi 11 0] (.block 0 (.loop (sq [b 12 .lss 11 10] (.seq (.cond (t 12) .skip (.exit 0)) (.seq (.block 1 (sq [ia 13 6 9 11,lm 14 6 13,o 7 (.lzero 7 [7] [z0,z0,z0,z0,z0,z0]),ls 7 6 7 14] (sq [m 15 1,l 16 7 6 7,o 17 (.raw (.call (.mk (.value (t 15)) #[(t 16)] #[117])) 4)] (.cond (t 17) (.ops [m 18 5,bk 19 .add 18 1,m 5 19]) .skip)))) (.ops [bk 20 .add 11 1,m 11 20]))))))) (.seq (sq [m 21 5] (.block 2 (sq [bk 23 .eql 21 0,m 22 23] (.cond (t 22) (sq [mi 4 2] .ret) (sq [f 25 4 2,ln 26 2 25,le 27 26,b 28 .eql 21 27,m 24 28] (.cond (t 24) (sq [mi 4 1] .ret) .skip)))))) (sq [mi 4 0] .ret)))))
def r91:List NRes:=[(.slot 4)]
theorem c91:IsN Tryz.prog 66 2 n91 r91:=isq [(2,2),(7,7),(8,2),(25,2)] Tryz.func66
def n108:Zaj:=(sq [m0 4] (sq [m 5 0,m 6 1,b 7 .lss 5 6,m 4 7] .ret))
def r108:List NRes:=[(.slot 4)]
theorem c108:IsN Tryz.prog 71 2 n108 r108:=isq [] Tryz.func71
def n92:Zaj:=(sq [o 1 (.lbox 1 [1,3] (t 0)),m0 2] (sq [f 3 4 1,l 4 1 2 3,o 5 (.build [z0,z0] []),o 6 (.pur (.binOp .neq 31 (t 4) (t 5) 31) 4),m 2 6] .ret))
def r92:List NRes:=[(.slot 2)]
theorem c92:IsN Tryz.prog 91 1 n92 r92:=isq [(1,1),(3,1)] Tryz.func91
def n98:Zaj:=(sq [o 2 (.lbox 2 [2] (t 0)),m0 3] (sq [l 4 2 4 2,ld 5 1,c2 6 97 4 5,m 3 6] .ret))
def r98:List NRes:=[(.slot 3)]
theorem c98:IsN Tryz.prog 96 2 n98 r98:=isq [(2,2)] Tryz.func96
def n133:Zaj:=(sq [mi 3 0] (.seq (.drawn [(o 4 (.fadr 2 (t 1)),none),(ld 5 4,none),(m 6 0,none),(ia 7 5 5 6,none),(o 8 (.fadr 2 (t 7)),none),(o 9 (.fadr 1 (t 8)),none),(ld 10 9,none),(o 11 (.fadr 2 (t 1)),none),(ld 12 11,none),(m 13 0,none),(ia 14 5 12 13,none),(o 15 (.fadr 2 (t 14)),none),(o 16 (.fadr 0 (t 15)),none),(ld 17 16,none),(b 18 .sub 10 17,none),(o 19 (.fadr 2 (t 1)),none),(ld 20 19,none),(m 21 0,none),(ia 22 5 20 21,none),(o 23 (.fadr 4 (t 22)),none),(ld 24 23,none),(b 25 .sub 18 24,none),(m 3 25,none)]) .ret))
def r133:List NRes:=[(.slot 3)]
theorem c133:IsN Tryz.prog 101 2 n133 r133:=isq [] Tryz.func101
def n125:Zaj:=(sq [o 2 (.mov (.const s0))] (.seq (sq [m 3 0,o 4 (.pur (.binOp .eql 23 (t 3) (.const s0) 23) 4)] (.cond (t 4) (sq [o 2 (.mov (.const s0))] .ret) .skip)) (sq [o 5 (.raw (.buildSlice 23 0 #[]) 23),m 6 0,o 7 (.raw (.call (.mk (.builtin .append) #[(t 5),(t 6)] #[23,23])) 23),m 2 7] .ret)))
def r125:List NRes:=[(.slot 2)]
theorem c125:IsN Tryz.prog 111 1 n125 r125:=isq [] Tryz.func111
def n120:Zaj:=(sq [o 2 (.lbox 2 [2,13,14] (t 0)),o 4 (.lzero 4 [4] [z0,z0,s0,s0]),o 5 (.mov (.const s0))] (sq [o 6 (.mov (.const s0))] (sq [l 10 2 4 2,o 7 (.lzero 7 [7,11,12,31,32,37,38] [z0,z0,s0,s0]),ls 7 4 7 10] (sq [f 11 0 7,f 12 3 11,u (.lst 7 1 12 (.const s0))] (.seq (sq [f 13 0 2,f 14 3 13,ln 15 2 14,le 16 15,mi 17 0] (.block 0 (.loop (sq [b 18 .lss 17 16] (.seq (.cond (t 18) .skip (.exit 0)) (.seq (.block 1 (sq [m 19 17,ia 20 3 15 17,lm 21 3 20,o 9 (.lzero 9 [9] [z0,z0,z0]),m 8 19,ls 9 3 9 21] (sq [m 22 1,m 23 8,o 24 (.pur (.binOp .shr 3 (t 22) (t 23) 3) 3),o 25 (.pur (.binOp .and 3 (t 24) (k 1) 3) 3),bk 26 .eql 25 1] (.cond (t 26) (.drawn [(m 27 6,none),(m 28 8,none),(f 31 0 7,none),(f 32 3 31,none),(ln 33 7 32,none),(l 34 9 3 9,none),(u (.build [z0,z0,z0] [(0,(3,(t 34)))]),none),(o 29 (.buildS 3 1 [z0] [(0,(1,(t 28)))]),(some false)),(u (.build [z0,z0,z0] [(0,(3,(t 34)))]),none),(o 30 (.raw (.call (.mk (.builtin .append) #[(t 27),(t 29)] #[29,29])) 29),(some false)),(o 35 (.buildS 101 1 [z0,z0,z0] [(0,(3,(t 34)))]),(some false)),(o 36 (.raw (.call (.mk (.builtin .append) #[(t 33),(t 35)] #[23,23])) 23),none),(m 6 30,none),(f 37 0 7,none),(f 38 3 37,none),(ls 7 1 38 36,none)]) .skip)))) (.ops [bk 39 .add 17 1,m 17 39]))))))) (sq [l 40 7 4 7,m 41 6,ls 4 4 4 40,m 5 41] .ret))))))
def r120:List NRes:=[(.var 4 4 (some 4)),(.slot 5)]
theorem c120:IsN Tryz.prog 116 2 n120 r120:=isq [(2,2),(4,4),(7,7),(9,9),(11,7),(12,7),(13,2),(14,2),(31,7),(32,7),(37,7),(38,7)] Tryz.func116
def n148:Zaj:=(sq [m1 8] (sq [m1 9] (.block 0 (.loop (.block 1 (sq [m 19 2,m 20 1,b 21 .sub 19 20,m 10 21] (.seq (sq [m 22 10,bk 23 .leq 22 12] (.cond (t 23) (sq [m 24 0,m 25 1,m 26 2,c3 27 194 24 25 26] .ret) .skip)) (.seq (sq [m 28 3,bk 29 .eql 28 0] (.cond (t 29) (sq [m 30 0,m 31 1,m 32 2,c3 33 195 30 31 32] .ret) .skip)) (.seq (sq [m 34 8,o 35 (.not (t 34))] (.cond (t 35) (sq [m 36 0,m 37 1,m 38 2,c3 39 196 36 37 38] (.ops [m 40 3,bk 41 .sub 40 1,m 3 41])) .skip)) (sq [m 43 0,m 44 1,m 45 2,c3 46 197 43 44 45,m 42 46,x 47 42 0,x 48 42 1,m 11 47,m 12 48] (.seq (sq [m 49 12,bk 50 .eql 49 2] (.cond (t 50) (sq [m 51 0,m 52 1,m 53 2,c3 54 198 51 52 53] (sq [m 55 2,bk 56 .sub 55 1,m 57 11,m 58 1,b 59 .sub 57 58,b 60 .sub 56 59,m 11 60] (.ops [mi 12 1]))) .skip)) (.seq (sq [m 61 8,m 62 61,mt 62 63 9,pa 64 62 63,m 65 64,mt 65 66 12,gt 65 67 (.bin .eql (t 66) (k 1)),pa 68 65 67] (.cond (t 68) (sq [m 69 0,m 70 1,m 71 2,c3 72 199 69 70 71] (.cond (t 72) .ret .skip)) .skip)) (.seq (.seq (.drawn [(m 73 1,none),(bk 74 .gtr 73 0,none),(m 75 74,none),(mt 75 76 0,none),(mt 75 77 1,none),(gt 75 78 (.bin .sub (t 77) (k 1)),none),(gt 75 79 (.iadr 1 (t 76) (t 78)),none),(gt 75 80 (.ld none (t 79)),none),(mt 75 81 0,none),(mt 75 82 11,none),(gt 75 83 (.iadr 1 (t 81) (t 82)),none),(gt 75 84 (.ld none (t 83)),none),(gt 75 85 (.call 200 [(t 80),(t 84)]),none),(gt 75 86 (.not (t 85)),none),(pa 87 75 86,none)]) (.cond (t 87) (sq [m 88 0,m 89 1,m 90 2,m 91 11,o 92 (.call 201 [(t 88),(t 89),(t 90),(t 91)]),m 13 92] (sq [m 93 13,m 1 93] (.exit 1))) .skip)) (sq [m 95 0,m 96 1,m 97 2,m 98 11,o 99 (.call 202 [(t 95),(t 96),(t 97),(t 98)]),m 94 99,x 100 94 0,x 101 94 1,m 14 100,m 15 101] (sq [m 102 15,m 9 102] (sq [m 103 14,m 104 1,b 105 .sub 103 104,m 106 2,m 107 14,b 108 .sub 106 107,m 16 105,m 17 108] (sq [m 109 10,o 110 (.pur (.binOp .quo 3 (t 109) (k 8) 3) 3),m 18 110] (sq [m 111 16,m 112 17,b 113 .lss 111 112] (.cond (t 113) (sq [m 114 16,m 115 18,b 116 .geq 114 115,m 8 116] (sq [m 117 0,m 118 1,m 119 14,m 120 3,o 121 (.call 151 [(t 117),(t 118),(t 119),(t 120)])] (.ops [m 122 14,bk 123 .add 122 1,m 1 123]))) (sq [m 124 17,m 125 18,b 126 .geq 124 125,m 8 126] (sq [m 127 0,m 128 14,bk 129 .add 128 1,m 130 2,m 131 3,o 132 (.call 151 [(t 127),(t 129),(t 130),(t 131)])] (.ops [m 133 14,m 2 133]))))))))))))))))))))))
def r148:List NRes:=[]
theorem c148:IsN Tryz.prog 151 4 n148 r148:=isq [] Tryz.func151
def n171:Zaj:=(sq [mi 4 0] (.seq (sq [m 9 0,le 10 9,mi 11 0] (.block 0 (.loop (sq [b 12 .lss 11 10] (.seq (.cond (t 12) .skip (.exit 0)) (.seq (.block 1 (sq [m 13 11,ia 14 1 9 11,ld 15 14,m 5 13,m 6 15] (.seq (sq [m 16 5,m 17 1,le 18 17,b 19 .geq 16 18] (.cond (t 19) (sq [mi 4 1] .ret) .skip)) (sq [m 20 1,m 21 5,ia 22 1 20 21,ld 23 22,m 7 23] (sq [m 24 6,m 25 7,c2 26 215 24 25,m 8 26] (sq [m 27 8,bk 28 .neq 27 0] (.cond (t 28) (sq [m 29 8,m 4 29] .ret) .skip))))))) (.ops [bk 30 .add 11 1,m 11 30]))))))) (.seq (sq [m 31 0,le 32 31,m 33 1,le 34 33,b 35 .lss 32 34] (.cond (t 35) (sq [o 4 (.mov (.const (.int .i64 (Int.negSucc 0))))] .ret) .skip)) (sq [mi 4 0] .ret))))
def r171:List NRes:=[(.slot 4)]
theorem c171:IsN Tryz.prog 175 2 n171 r171:=isq [] Tryz.func175
def n178:Zaj:=(sq [o 2 (.raw (.box 135 (t 0)) 0),o 4 (.mov (.const s0))] (.seq (sq [m 6 1] (.block 0 (.rfun (t 6) [7] (.ops [o 5 (.raw (.alloc 117) 0),st 117 5 7 0]) (.block 1 (.ops [ld 8 2,lm 9 6 5,o 10 (.buildS 117 1 [z0,z0,z0,z0,z0,z0] [(0,(6,(t 9)))]),o 11 (.raw (.call (.mk (.builtin .append) #[(t 8),(t 10)] #[135,135])) 135),st 135 2 11 0]))))) (sq [ld 12 2,m 4 12] .ret)))
def r178:List NRes:=[(.slot 4)]
theorem c178:IsN Tryz.prog 185 2 n178 r178:=isq [] Tryz.func185
def n180:Zaj:=(sq [m 11 1,m 6 11] (sq [mi 7 0] (sq [m 12 2,m 13 1,b 14 .sub 12 13,m 8 14] (.seq (sq [m 15 8,bk 16 .sub 15 1,o 17 (.pur (.binOp .quo 3 (t 16) (k 2) 3) 3),m 9 17] (.block 0 (.loop (.seq (sq [m 18 9,bk 19 .geq 18 0] (.cond (t 19) .skip (.exit 0))) (.seq (.block 1 (.ops [m 22 0,m 23 9,m 24 8,m 25 6,o 26 (.call 225 [(t 22),(t 23),(t 24),(t 25)])])) (.ops [m 20 9,bk 21 .sub 20 1,m 9 21])))))) (sq [m 27 8,bk 28 .sub 27 1,m 10 28] (.block 2 (.loop (.seq (sq [m 29 10,bk 30 .geq 29 0] (.cond (t 30) .skip (.exit 2))) (.seq (.block 3 (.seq (.drawn [(m 33 0,none),(m 34 6,none),(m 35 0,none),(m 36 6,none),(m 37 10,none),(b 38 .add 36 37,none),(m 39 0,none),(m 40 6,none),(m 41 10,none),(b 42 .add 40 41,none),(ia 43 1 39 42,none),(ld 44 43,none),(m 45 0,none),(m 46 6,none),(ia 47 1 45 46,none),(ld 48 47,none),(ia 49 1 33 34,none),(st 3 49 44 0,(some false)),(ia 50 1 35 38,none),(st 3 50 48 0,none)]) (.ops [m 51 0,m 52 7,m 53 10,m 54 6,o 55 (.call 225 [(t 51),(t 52),(t 53),(t 54)])]))) (.ops [m 31 10,bk 32 .sub 31 1,m 10 32]))))))))))
def r180:List NRes:=[]
theorem c180:IsN Tryz.prog 195 3 n180 r180:=isq [] Tryz.func195
def n185:Zaj:=(sq [m0 4] (sq [m 5 0,c1 6 230 5,m 7 6,mt 7 8 1,gt 7 9 (.call 230 [(t 8)]),gt 7 10 (.not (t 9)),pa 11 7 10,m 12 11,mf 12 13 0,mf 12 14 1,gf 12 15 (.bin .lss (t 13) (t 14)),po 16 12 15,m 4 16] .ret))
def r185:List NRes:=[(.slot 4)]
theorem c185:IsN Tryz.prog 200 2 n185 r185:=isq [] Tryz.func200
def n200:Zaj:=(sq [mi 4 0] (.seq (sq [m 6 0,le 7 6,mi 8 0] (.block 0 (.loop (sq [b 9 .lss 8 7] (.seq (.cond (t 9) .skip (.exit 0)) (.seq (.block 1 (sq [m 10 8,m 5 10] (sq [m 11 1,m 12 0,m 13 5,ia 14 1 12 13,ld 15 14,o 16 (.raw (.call (.mk (.value (t 11)) #[(t 15)] #[3])) 4)] (.cond (t 16) (sq [m 17 5,m 4 17] .ret) .skip)))) (.ops [bk 18 .add 8 1,m 8 18]))))))) (sq [o 4 (.mov (.const (.int .i64 (Int.negSucc 0))))] .ret)))
def r200:List NRes:=[(.slot 4)]
theorem c200:IsN Tryz.prog 205 2 n200 r200:=isq [] Tryz.func205
def n201:Zaj:=(sq [mi 4 0] (.seq (sq [m 6 0,le 7 6,mi 8 0] (.block 0 (.loop (sq [b 9 .lss 8 7] (.seq (.cond (t 9) .skip (.exit 0)) (.seq (.block 1 (sq [m 10 8,m 5 10] (sq [m 11 1,m 12 0,m 13 5,ia 14 3 12 13,lm 15 3 14,o 16 (.raw (.call (.mk (.value (t 11)) #[(t 15)] #[101])) 4)] (.cond (t 16) (sq [m 17 5,m 4 17] .ret) .skip)))) (.ops [bk 18 .add 8 1,m 8 18]))))))) (sq [o 4 (.mov (.const (.int .i64 (Int.negSucc 0))))] .ret)))
def r201:List NRes:=[(.slot 4)]
theorem c201:IsN Tryz.prog 224 2 n201 r201:=isq [] Tryz.func224
def n206:Zaj:=(sq [mi 10 0] (sq [m 12 0,m 13 1,m 14 2,m 15 4,o 16 (.call 240 [(t 12),(t 13),(t 14),(t 15)]),m 11 16,x 17 11 0,x 18 11 1,m 1 17,m 2 18] (sq [m 20 0,m 21 2,m 22 3,m 23 4,o 24 (.call 240 [(t 20),(t 21),(t 22),(t 23)]),m 19 24,x 25 19 0,x 26 19 1,m 2 25,m 3 26] (sq [m 28 0,m 29 1,m 30 2,m 31 4,o 32 (.call 240 [(t 28),(t 29),(t 30),(t 31)]),m 27 32,x 33 27 0,x 34 27 1,m 1 33,m 2 34] (sq [m 35 2,m 10 35] .ret)))))
def r206:List NRes:=[(.slot 10)]
theorem c206:IsN Tryz.prog 229 5 n206 r206:=isq [] Tryz.func229
def n234:Zaj:=(sq [o 1 (.lbox 1 [1,5,6,10,11] (t 0)),mi 2 0] (.seq (sq [f 5 0 1,f 6 3 5,ln 7 1 6,le 8 7,bk 9 .gtr 8 3] (.cond (t 9) (sq [mi 2 2] .ret) .skip)) (.seq (sq [f 10 0 1,f 11 3 10,ln 12 1 11,le 13 12,mi 14 0] (.block 0 (.loop (sq [b 15 .lss 14 13] (.seq (.cond (t 15) .skip (.exit 0)) (.seq (.block 1 (sq [ia 16 3 12 14,lm 17 3 16,o 4 (.lzero 4 [4,20,25] [z0,z0,z0]),ls 4 3 4 17] (.block 2 (sq [l 19 1 4 1,f 20 0 4,ln 21 4 20,c2 22 97 19 21,o 23 (.not (t 22)),m 18 23] (.cond (t 18) (sq [mi 2 6] .ret) (sq [f 25 1 4,l 26 4 2 25,o 27 (.call 113 [(t 26),(.const (.int .i64 (Int.negSucc 198))),(k 199)]),o 28 (.not (t 27)),m 24 28] (.cond (t 24) (sq [mi 2 1] .ret) .skip))))))) (.ops [bk 29 .add 14 1,m 14 29]))))))) (sq [mi 2 0] .ret))))
def r234:List NRes:=[(.slot 2)]
theorem c234:IsN Tryz.prog 269 1 n234 r234:=isq [(1,1),(4,4),(5,1),(6,1),(10,1),(11,1),(20,4),(25,4)] Tryz.func269
end Go.Proofs
end
section
open Go Go.LL
namespace Go.Proofs
section
variable  {P:Prg}[Tz P]{H:Hp}
set_option maxHeartbeats 400000
theorem Zby (n lo hi:Int):LL.Zag P 105 #[vi n,vi lo,vi hi] H fun v H'=>H=H'∧v=vb (decide (lo<=n∧n<=hi)):=by
 refine IsN.m (isn c112) (args:=[vi n,vi lo,vi hi]) rfl ?_
 unfold n112
 refine wkT ?_
 refine wiT (fun h1=>?_) (fun h1=>?_)<;>refine wkT ?_<;>exact⟨rfl,by simp[Zbd,h1]⟩
theorem Zm1 (n lo hi:Int):LL.Zag P 10 #[vi n,vi lo,vi hi] H fun v H'=>H=H'∧v=vb (decide (lo<=n∧n<=hi)):=by
 refine IsN.m (isn c53) (args:=[vi n,vi lo,vi hi]) rfl ?_
 unfold n53
 refine wkT ?_
 refine wiT (fun h1=>?_) (fun h1=>?_)<;>refine wkT ?_<;>exact⟨rfl,by simp[Zbd,h1]⟩
theorem Zk3 (m n:Int):LL.Zag P 70 #[vi m,vi n] H fun v H'=>H=H'∧v=vb (decide (n<m)):=by
 refine IsN.m (isn c107) (args:=[vi m,vi n]) rfl ?_
 unfold n107
 refine wkT ?_
 exact⟨rfl,rfl⟩
theorem Zmp (m n:Int):LL.Zag P 71 #[vi m,vi n] H fun v H'=>H=H'∧v=vb (decide (m<n)):=by
 refine IsN.m (isn c108) (args:=[vi m,vi n]) rfl ?_
 unfold n108
 refine wkT ?_
 exact⟨rfl,rfl⟩
theorem Zfj (a b lo hi:Int)(hst:P.still H.gh=false):LL.Zag P 113 #[.agg #[vi a,vi b],vi lo,vi hi] H fun v H'=>H=H'∧v=vb (decide (lo<=a∧a<=b∧b<=hi)):=by
 refine IsN.m (isn c128) (args:=[.agg #[vi a,vi b],vi lo,vi hi]) rfl ?_
 unfold n128
 refine wkT ?_
 refine wiT (fun h1=>?_) (fun h1=>?_)<;>refine wkT ?_
 refine wiT (fun h2=>?_) (fun h2=>?_)<;>refine wkT ?_<;>exact⟨rfl,by simp[Zbd,h1,h2]⟩
 exact⟨rfl,by simp[Zbd,h1]⟩
theorem ZeM {bv:Value}{b:Bk}(hb:BkAt H bv b)(n:Int)(hn:b.pts.length<=1000000)(hst:P.still H.gh=false):LL.Zag P 97 #[bv,vi n] H fun v H'=>H=H'∧v=vb (decide (0<=n∧n<b.pts.length)):=by
 obtain⟨pv,cv,rfl,hp,hc⟩:=hb
 refine IsN.m (isn c99) (args:=[.agg #[vi b.op,vi b.sl,pv,cv],vi n]) rfl ?_
 unfold n99
 refine wkT ?_
 refine Zau hp rfl ?_
 refine wkT ?_
 refine Zab (vs:=[vi n,vi 0,vi (b.pts.length-1)]) rfl (Zby _ _ _) ?_
 rintro v _ ⟨rfl,rfl⟩
 refine wkT ?_
 exact⟨rfl,congrArg vb (decide_eq_decide.2 (by omega))⟩
def Zbj (b:Bk):Int:=if (0<=b.op∧b.op<=99)∧(0<=b.sl∧b.sl<=3) then 0 else 1
theorem Zld {bv:Value}{b:Bk}(hb:BkAt H bv b)(hst:P.still H.gh=false):LL.Zag P 267 #[bv] H fun v H'=>H=H'∧v=vi (Zbj b):=by
 obtain⟨pv,cv,rfl,hp,hc⟩:=hb
 refine IsN.m (isn c232) (args:=[.agg #[vi b.op,vi b.sl,pv,cv]]) rfl ?_
 unfold n232
 refine wkT ?_
 refine Zab (vs:=[vi b.op,vi 0,vi 99]) rfl (Zby _ _ _) ?_
 rintro v _ ⟨rfl,rfl⟩
 refine wkT ?_
 refine wiT (fun h1=>?_) (fun h1=>?_)
 ·refine wkT ?_
  exact⟨rfl,by simp[Zbd,Zbj];omega⟩
 ·refine wkT ?_
  refine Zab (vs:=[vi b.sl,vi 0,vi 3]) rfl (Zby _ _ _) ?_
  rintro v _ ⟨rfl,rfl⟩
  refine wkT ?_
  refine wiT (fun h2=>?_) (fun h2=>?_)
  ·refine wkT ?_
   exact⟨rfl,by simp[Zbd,Zbj];omega⟩
  ·refine wkT ?_
   exact⟨rfl,by simp[Zbd,Zbj];omega⟩
def okP (p:SPt):Bool:=decide (0<=p.ml∧p.ml<=p.mh∧p.mh<=99) && decide (p.mh-p.ml<3) && decide (0<=p.bl∧p.bl<=p.bh∧p.bh<=199) && decide (0<=p.w∧p.w<=199)
def Zbk (b:Bk):Int:=if ¬ (2<=b.pts.length∧b.pts.length<=4) then 2 else if b.pts.all okP then 0 else 1
theorem Zkz {α:Type}{f:α->Bool}{l:List α}{j:Nat}(hj:j<l.length):(l.take (j+1)).all f=((l.take j).all f && f l[j]):=by
 rw[List.take_succ_eq_append_getElem hj,List.all_append];simp only[List.all_cons,List.all_nil,Bool.and_true]
theorem all_no {α:Type}{f:α->Bool}{l:List α}{j:Nat}(hj:j<l.length)(h:f l[j]=false):l.all f=false:=by
 rw[List.all_eq_false];exact⟨l[j],List.getElem_mem hj,by simp[h]⟩
theorem ZlY {bv:Value}{b:Bk}(hb:BkAt H bv b)(hl:b.pts.length<=1000000)(hst:P.still H.gh=false):LL.Zag P 268 #[bv] H fun v H'=>H=H'∧v=vi (Zbk b):=by
 obtain⟨pv,cv,rfl,hp,hc⟩:=hb
 refine IsN.m (isn c233) (args:=[.agg #[vi b.op,vi b.sl,pv,cv]]) rfl ?_
 unfold n233
 refine wkT ?_
 refine Zau hp rfl ?_
 refine wkT ?_
 refine Zab (vs:=[vi b.pts.length,vi 2,vi 4]) rfl (Zby _ _ _) ?_
 rintro v _ ⟨rfl,rfl⟩
 refine wkT ?_
 refine wiT (fun h1=>?_) (fun h1=>?_)
 ·refine wkT ?_
  exact⟨rfl,by simp[Zbd,Zbk];omega⟩
 ·refine wkT ?_
  refine Zau hp rfl ?_
  refine wkT ?_
  refine ZaW b.pts.length (fun j H'=>H=H'∧(b.pts.take j).all okP=true) (fun j=>[(13,pv),(14,vi b.pts.length),(15,vi j)]) (fun _=>[]) ⟨rfl,by simp⟩ ⟨rfl,rfl,rfl,trivial⟩ trivial ?_
  rintro j _ hj ⟨rfl,hall⟩
  refine wkT ?_
  refine wiT (fun h2=>?_) (fun h2=>?_)
  ·refine wkT ?_
   refine ZaE hp rfl rfl rfl (i:=j) (by omega) fun a ha=>?_
   refine wkT ?_
   refine Zao hst rfl ha rfl ?_
   refine wkT ?_
   refine Zab (vs:=[.agg #[vi b.pts[j].ml,vi b.pts[j].mh],vi 0,vi 99]) rfl (Zfj _ _ _ _ hst) ?_
   rintro v _ ⟨rfl,rfl⟩
   refine wkT ?_
   have next:okP b.pts[j]=true->(b.pts.take (j+1)).all okP=true:=fun h=>by rw[Zkz (by omega),hall,h];rfl
   have stop:okP b.pts[j]=false->Zbk b=1:=fun h=>by rw[Zbk,if_neg (by omega),all_no (by omega) h];rfl
   unfold okP at next stop
   refine wiT (fun h3=>?_) (fun h3=>?_)
   ·refine wkT ?_
    exact⟨rfl,by rw[stop (by simp[h3])];rfl⟩
   ·refine wkT ?_
    refine wiT (fun h4=>?_) (fun h4=>?_)
    ·refine wkT ?_
     exact⟨rfl,by rw[stop (by simp;omega)];rfl⟩
    ·refine wkT ?_
     refine Zab (vs:=[.agg #[vi b.pts[j].bl,vi b.pts[j].bh],vi 0,vi 199]) rfl (Zfj _ _ _ _ hst) ?_
     rintro v _ ⟨rfl,rfl⟩
     refine wkT ?_
     refine wiT (fun h5=>?_) (fun h5=>?_)
     ·refine wkT ?_
      exact⟨rfl,by rw[stop (by simp;omega)];rfl⟩
     ·refine wkT ?_
      refine Zab (vs:=[vi b.pts[j].w,vi 0,vi 199]) rfl (Zby _ _ _) ?_
      rintro v _ ⟨rfl,rfl⟩
      refine wkT ?_
      refine wiT (fun h6=>?_) (fun h6=>?_)
      ·refine wkT ?_
       exact⟨rfl,by rw[stop (by simp;omega)];rfl⟩
      ·refine wkT ?_
       exact⟨⟨j+1,by omega⟩,slt (by omega),⟨rfl,next (by simp;omega)⟩,⟨rfl,rfl,rfl,trivial⟩,trivial,rfl⟩
  ·refine wkT ?_
   have:j=b.pts.length:=by omega
   subst this
   exact⟨rfl,by rw[Zbk,if_neg (by omega),if_pos (by simpa using hall)];rfl⟩
end
def ckS (n:Nat):List SCk->Int
 | []=>0
 | c :: l=>if ¬ (0<=c.p∧c.p<n) then 6 else if ¬ (-199<=c.gl∧c.gl<=c.gh∧c.gh<=199) then 1 else ckS n l
def ZbJ (b:Bk):Int:=if 3<b.cks.length then 2 else ckS b.pts.length b.cks
def snag (b:Bk):Int:=if Zbj b≠0 then Zbj b else if Zbk b≠0 then Zbk b else ZbJ b
def Zbh (H:Hp):Prop:=CellsAt H ⟨1,0,none⟩ [vf 267,vf 268,vf 269]
theorem ZcG {α:Type}{l:List α}{j:Nat}(hj:j<l.length):l.drop j=l[j] :: l.drop (j+1):=List.drop_eq_getElem_cons hj
section
variable  {P:Prg}[Tz P]{H:Hp}
set_option maxHeartbeats 400000
theorem Zle {bv:Value}{b:Bk}(hb:BkAt H bv b)(hl:b.pts.length<=1000000)(hl2:b.cks.length<=1000000)(hst:P.still H.gh=false):LL.Zag P 269 #[bv] H fun v H'=>H=H'∧v=vi (ZbJ b):=by
 have hb0:=hb
 obtain⟨pv,cv,rfl,hp,hc⟩:=hb
 refine IsN.m (isn c234) (args:=[.agg #[vi b.op,vi b.sl,pv,cv]]) rfl ?_
 unfold n234
 refine wkT ?_
 refine Zau hc rfl ?_
 refine wkT ?_
 refine wiT (fun h1=>?_) (fun h1=>?_)
 ·refine wkT ?_
  exact⟨rfl,by rw[ZbJ,if_pos (by omega)];rfl⟩
 ·refine wkT ?_
  refine Zau hc rfl ?_
  refine wkT ?_
  refine ZaW b.cks.length (fun j H'=>H=H'∧ckS b.pts.length b.cks=ckS b.pts.length (b.cks.drop j)) (fun j=>[(1,vi 0),(12,cv),(13,vi b.cks.length),(14,vi j)]) (fun _=>[(1,[vi b.op,vi b.sl,pv,cv])]) ⟨rfl,rfl⟩ ⟨rfl,rfl,rfl,rfl,trivial⟩ ⟨rfl,trivial⟩ ?_
  rintro j _ hj ⟨rfl,hall⟩
  refine wkT ?_
  refine wiT (fun h2=>?_) (fun h2=>?_)
  ·have hj':j<b.cks.length:=by omega
   rw[ZcG hj',ckS]at hall
   refine wkT ?_
   refine ZaE hc rfl rfl rfl (i:=j) hj' fun a ha=>?_
   refine wkT ?_
   refine Zao hst rfl ha rfl ?_
   refine wkT ?_
   refine Zab (vs:=[.agg #[vi b.op,vi b.sl,pv,cv],vi b.cks[j].p]) rfl (ZeM hb0 _ hl hst) ?_
   rintro v _ ⟨rfl,rfl⟩
   refine wkT ?_
   refine wiT (fun h3=>?_) (fun h3=>?_)
   ·refine wkT ?_
    exact⟨rfl,by rw[ZbJ,if_neg (by omega),hall,if_pos h3];rfl⟩
   ·refine wkT ?_
    refine Zab (vs:=[.agg #[vi b.cks[j].gl,vi b.cks[j].gh],vi (-199),vi 199]) rfl (Zfj _ _ _ _ hst) ?_
    rintro v _ ⟨rfl,rfl⟩
    refine wkT ?_
    refine wiT (fun h4=>?_) (fun h4=>?_)
    ·refine wkT ?_
     exact⟨rfl,by rw[ZbJ,if_neg (by omega),hall,if_neg (by omega),if_pos h4];rfl⟩
    ·refine wkT ?_
     rw[if_neg (by omega),if_neg (by omega)]at hall
     exact⟨⟨j+1,by omega⟩,slt (by omega),⟨rfl,hall⟩,⟨rfl,rfl,rfl,rfl,trivial⟩,⟨rfl,trivial⟩,rfl⟩
  ·refine wkT ?_
   have:j=b.cks.length:=by omega
   subst this
   rw[List.drop_length]at hall
   exact⟨rfl,by rw[ZbJ,if_neg (by omega),hall];rfl⟩
theorem ZaJ {bv:Value}{b:Bk}(hb:BkAt H bv b)(hg:Zbh H)(hl:b.pts.length<=1000000)(hl2:b.cks.length<=1000000)(hst:P.still H.gh=false):LL.Zag P 89 #[bv] H fun v H'=>H=H'∧v=vi (snag b):=by
 have hb0:=hb
 obtain⟨pv,cv,rfl,hp,hc⟩:=hb
 refine IsN.m (isn c78) (args:=[.agg #[vi b.op,vi b.sl,pv,cv]]) rfl ?_
 unfold n78
 refine wkT ?_
 refine Zao hst rfl hg rfl ?_
 refine wkT ?_
 refine ZaW 3 (fun j H'=>H=H'∧(1<=j->Zbj b=0)∧(2<=j->Zbk b=0)∧(3<=j->ZbJ b=0)) (fun j=>[(1,vi 0),(6,.agg #[vf 267,vf 268,vf 269]),(7,vi j)]) (fun _=>[(1,[vi b.op,vi b.sl,pv,cv])]) ⟨rfl,by omega,by omega,by omega⟩ ⟨rfl,rfl,rfl,trivial⟩ ⟨rfl,trivial⟩ ?_
 rintro j _ hj ⟨rfl,g1,g2,g3⟩
 refine wkT ?_
 refine wiT (fun h1=>?_) (fun h1=>?_)
 ·have hj3:j=0∨j=1∨j=2:=by omega
  refine wkT ?_
  rcases hj3 with rfl | rfl | rfl
  ·refine Zde (und u178) (tif t177) (agf a177) rfl rfl (i:=0) (by omega) rfl ?_
   refine wkT ?_
   refine ZaP rfl rfl (ZcY (by kernel_rfl) (Zld hb0 hst)) ?_
   rintro v _ ⟨rfl,rfl⟩
   refine wkT ?_
   refine wiT (fun h2=>?_) (fun h2=>?_)
   ·refine wkT ?_
    exact⟨rfl,by rw[snag,if_pos (by exact h2)];rfl⟩
   ·refine wkT ?_
    exact⟨⟨1,by omega⟩,(by show 3-1<3-0;omega),⟨rfl,fun _=>h2,fun h=>absurd (show 2<=1 from h) (by omega),fun h=>absurd (show 3<=1 from h) (by omega)⟩,⟨rfl,rfl,rfl,trivial⟩,⟨rfl,trivial⟩,rfl⟩
  ·refine Zde (und u178) (tif t177) (agf a177) rfl rfl (i:=1) (by omega) rfl ?_
   refine wkT ?_
   refine ZaP rfl rfl (ZcY (by kernel_rfl) (ZlY hb0 hl hst)) ?_
   rintro v _ ⟨rfl,rfl⟩
   refine wkT ?_
   refine wiT (fun h2=>?_) (fun h2=>?_)
   ·refine wkT ?_
    exact⟨rfl,by rw[snag,if_neg (by rw[g1 (by omega)];simp),if_pos h2];rfl⟩
   ·refine wkT ?_
    exact⟨⟨2,by omega⟩,(by show 3-2<3-1;omega),⟨rfl,fun _=>g1 (by omega),fun _=>h2,fun h=>absurd (show 3<=2 from h) (by omega)⟩,⟨rfl,rfl,rfl,trivial⟩,⟨rfl,trivial⟩,rfl⟩
  ·refine Zde (und u178) (tif t177) (agf a177) rfl rfl (i:=2) (by omega) rfl ?_
   refine wkT ?_
   refine ZaP rfl rfl (ZcY (by kernel_rfl) (Zle hb0 hl hl2 hst)) ?_
   rintro v _ ⟨rfl,rfl⟩
   refine wkT ?_
   refine wiT (fun h2=>?_) (fun h2=>?_)
   ·refine wkT ?_
    exact⟨rfl,by rw[snag,if_neg (by rw[g1 (by omega)];simp),if_neg (by rw[g2 (by omega)];simp)];rfl⟩
   ·refine wkT ?_
    exact⟨⟨3,by omega⟩,(by show 3-3<3-2;omega),⟨rfl,fun _=>g1 (by omega),fun _=>g2 (by omega),fun _=>h2⟩,⟨rfl,rfl,rfl,trivial⟩,⟨rfl,trivial⟩,rfl⟩
 ·have:j=3:=by omega
  subst this
  refine wkT ?_
  exact⟨rfl,by rw[snag,if_neg (by rw[g1 (by omega)];simp),if_neg (by rw[g2 (by omega)];simp),g3 (by omega)];rfl⟩
end
structure N4 where
 (a b c d:Int)
def N4.get (n:N4):Nat->Int
 | 0=>n.a
 | 1=>n.b
 | 2=>n.c
 | _=>n.d
def N4.of (f:Nat->Int):N4:=⟨f 0,f 1,f 2,f 3⟩
theorem N4.of_get (f:Nat->Int){j:Nat}(hj:j<4):(N4.of f).get j=f j:=by
 match j,hj with
 | 0,_=>rfl
 | 1,_=>rfl
 | 2,_=>rfl
 | 3,_=>rfl
theorem N4.ext' {m n:N4}(h:∀ j,j<4->m.get j=n.get j):m=n:=by
 cases m;cases n
 have h0:=h 0 (by omega);have h1:=h 1 (by omega);have h2:=h 2 (by omega);have h3:=h 3 (by omega)
 simp only[N4.get]at h0 h1 h2 h3
 subst h0 h1 h2 h3
 rfl
def N4.cells (n:N4):List Value:=[vi n.a,vi n.b,vi n.c,vi n.d]
def N4.list (n:N4):List Int:=[n.a,n.b,n.c,n.d]
def numV (n:N4):Value:=.agg #[vi n.a,vi n.b,vi n.c,vi n.d]
theorem ZcH (n:N4){j:Nat}(hj:j<4):n.cells[0+j * 1]? = some (vi (n.get j)):=by
 match j,hj with
 | 0,_=>rfl
 | 1,_=>rfl
 | 2,_=>rfl
 | 3,_=>rfl
def N4.put (n:N4)(j:Nat)(v:Int):N4:=N4.of fun i=>if i=j then v else n.get i
theorem Zex (n:N4){j:Nat}(v:Int)(hj:j<4):ZaM n.cells (0+j * 1) [vi v]=(n.put j v).cells:=by
 match j,hj with
 | 0,_=>rfl
 | 1,_=>rfl
 | 2,_=>rfl
 | 3,_=>rfl
theorem N4.put_get (n:N4){i j:Nat}(v:Int)(hi:i<4):(n.put j v).get i=if i=j then v else n.get i:=N4.of_get _ hi
structure Boat where
 m:N4
 (bf by_:Int)
def Boat.cells (x:Boat):List Value:=[vi x.m.a,vi x.m.b,vi x.m.c,vi x.m.d,vi x.bf,vi x.by_]
def ZaH (x:Boat):Value:=.agg #[vi x.m.a,vi x.m.b,vi x.m.c,vi x.m.d,vi x.bf,vi x.by_]
theorem boat_get (x:Boat){j:Nat}(hj:j<4):x.cells[0+j * 1]? = some (vi (x.m.get j)):=by
 match j,hj with
 | 0,_=>rfl
 | 1,_=>rfl
 | 2,_=>rfl
 | 3,_=>rfl
instance:Enc Boat:=⟨6,fun x=>x.cells,fun _=>rfl⟩
def Zk4 (b:Bk)(x:Boat)(i:Nat):Int:=b.op-x.m.get i+if x.bf<=i then x.by_ else 0
def Zas (b:Bk)(x:Boat):N4:=.of fun i=>if i<b.pts.length then Zk4 b x i else 0
def Sm (n:Int):Prop:=-100000<=n∧n<=100000
def N4.Sm (n:N4):Prop:=∀ j,j<4->Proofs.Sm (n.get j)
structure BtOk (x:Boat):Prop where
 m:x.m.Sm
 by_:Sm x.by_
structure BkOk (b:Bk):Prop where
 op:Sm b.op
 le:b.pts.length<=4
def upTo (b:Bk)(x:Boat)(j:Nat):N4:=.of fun i=>if i<j then Zk4 b x i else 0
theorem ZlD {b:Bk}{x:Boat}{j:Nat}(_hj:j<4):(upTo b x j).put j (Zk4 b x j)=upTo b x (j+1):=by
 refine N4.ext' fun i hi=>?_
 rw[N4.put_get _ _ hi,upTo,N4.of_get _ hi,upTo,N4.of_get _ hi]
 by_cases e:i=j
 ·subst e;simp
 ·rw[if_neg e]
  by_cases h:i<j
  ·rw[if_pos h,if_pos (by omega)]
  ·rw[if_neg h,if_neg (by omega)]
theorem N4.put_put (n:N4){j:Nat}(v w:Int):(n.put j v).put j w=n.put j w:=by
 refine N4.ext' fun i hi=>?_
 rw[N4.put_get _ _ hi,N4.put_get _ _ hi,N4.put_get _ _ hi]
 split<;>rfl
section
variable  {P:Prg}[Tz P]{H:Hp}
set_option maxHeartbeats 400000
theorem Zdk {bv:Value}{b:Bk}{x:Boat}(hb:BkAt H bv b)(ok:BkOk b)(okx:BtOk x)(hst:P.still H.gh=false):LL.Zag P 54 #[bv,ZaH x] H fun v H'=>H=H'∧v=numV (Zas b x):=by
 obtain⟨pv,cv,rfl,hp,hc⟩:=hb
 have hle:=ok.le
 obtain⟨ho1,ho2⟩:=ok.op
 obtain⟨hy1,hy2⟩:=okx.by_
 refine IsN.m (isn c100) (args:=[.agg #[vi b.op,vi b.sl,pv,cv],ZaH x]) rfl ?_
 unfold n100
 refine wkT ?_
 refine Zau hp rfl ?_
 refine wkT ?_
 refine ZaW b.pts.length (fun j H'=>H=H') (fun j=>[(2,vi 0),(3,vi 0),(4,vi 0),(5,vi 0),(10,vi b.pts.length),(11,vi j)]) (fun j=>[(2,[vi b.op,vi b.sl,pv,cv]),(3,x.cells),(4,[vi 0,vi 0,vi 0,vi 0]),(5,(upTo b x j).cells)]) rfl ⟨rfl,rfl,rfl,rfl,rfl,rfl,trivial⟩ ⟨rfl,rfl,rfl,rfl,trivial⟩ ?_
 rintro j _ hj rfl
 refine wkT ?_
 refine wiT (fun h1=>?_) (fun h1=>?_)
 ·have hj4:j<4:=by omega
  obtain⟨hm1,hm2⟩:=okx.m j hj4
  refine wkT ?_
  refine Zcz rfl rfl hj4 ?_
  refine wkT ?_
  refine Zdd hst rfl rfl (boat_get x hj4) ?_
  refine wkT ?_
  refine Zcz rfl rfl hj4 ?_
  refine wkT ?_
  refine Zj8 hst rfl rfl rfl rfl (by show 0+j * 1+1<=4;omega) rfl ?_
  refine wkT ?_
  refine wiT (fun h2=>?_) (fun h2=>?_)
  ·refine wkT ?_
   refine Zcz rfl rfl hj4 ?_
   refine wkT ?_
   refine Zdd (v:=vi (b.op-x.m.get j)) hst rfl rfl (by show (ZaM (upTo b x j).cells (0+j * 1) [vi (b.op-x.m.get j)])[0+j * 1]? = _;rw[Zex _ _ hj4,ZcH _ hj4,N4.put_get _ _ hj4,if_pos rfl]) ?_
   refine wkT ?_
   refine Zcz rfl rfl hj4 ?_
   refine wkT ?_
   refine Zj8 hst rfl rfl rfl rfl (by show 0+j * 1+1<=(ZaM (upTo b x j).cells (0+j * 1) [vi (b.op-x.m.get j)]).length;rw[Zex _ _ hj4];show _<=4;omega) rfl ?_
   refine wkT ?_
   refine⟨⟨j+1,by omega⟩,slt (by omega),rfl,⟨rfl,rfl,rfl,rfl,rfl,rfl,trivial⟩,⟨rfl,rfl,rfl,?_,trivial⟩,rfl⟩
   show some (ZaM (ZaM (upTo b x j).cells (0+j * 1) [vi (b.op-x.m.get j)]) (0+j * 1) [vi (b.op-x.m.get j+x.by_)])=some (upTo b x (j+1)).cells
   rw[Zex _ _ hj4,Zex _ _ hj4,N4.put_put,<-ZlD hj4,Zk4,if_pos h2]
  ·refine wkT ?_
   refine⟨⟨j+1,by omega⟩,slt (by omega),rfl,⟨rfl,rfl,rfl,rfl,rfl,rfl,trivial⟩,⟨rfl,rfl,rfl,?_,trivial⟩,rfl⟩
   show some (ZaM (upTo b x j).cells (0+j * 1) [vi (b.op-x.m.get j)])=some (upTo b x (j+1)).cells
   rw[Zex _ _ hj4,<-ZlD hj4,Zk4,if_neg h2,Int.add_zero]
 ·have:j=b.pts.length:=by omega
  subst this
  refine wkT ?_
  exact⟨rfl,rfl⟩
end
end Go.Proofs
end
