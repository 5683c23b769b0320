import Derived.Test.YtlhomfgcibjccaaGreatDoorP17
import Derived.Test.YtlhomfgcibjccaaGreatDoorP18
import Derived.Test.YtlhomfgcibjccaaGreatDoorP19
set_option linter.all false
set_option maxHeartbeats 400000
open Go Go.LL
namespace Go.Proofs
section
open Go.Z
def Zle:Ze:=(sq [o 1 (.aP 1 [1] 0),mi 2 0,mi 3 0] (sq [l 7 1 5 1,o 8 (.call 85 [7,(.func 101)]),m 6 8,x 9 6 0,x 10 6 1,o 4 (.aQ 4 [4] [z0,z0,z0,s0,s0,s0]),ls 4 6 4 9,m 5 10] (.seq (sq [m 11 5,bk 12 .neq 11 0] (.cond 12 (sq [m 13 5,mi 2 0,m 3 13] .ret) .skip)) (sq [l 14 4 6 4,c1 15 102 14,le 16 15,m 2 16,mi 3 0] .ret))))
def Zr1:List Zf:=[(.aK 2),(.aK 3)]
def ZxR:aJ Tryz.prog 30 1 Zle Zr1:=bD [(1,1),(4,4)] Tryz.func30
def Zk8:Ze:=(sq [o 3 (.aP 3 [3] 0),o 6 (.cY (.const s0)),mi 7 0] (sq [l 12 3 5 3,m 13 1,m 14 2,c3 15 111 12 13 14,m 11 15,x 16 11 0,x 17 11 1,x 18 11 2,o 8 (.aQ 8 [8] [z0,z0,z0,s0,s0]),o 9 (.aQ 9 [9] [z0,z0,z0,z0]),ls 8 5 8 16,ls 9 4 9 17,m 10 18] (.seq (sq [m 19 10,bk 20 .neq 19 0] (.cond 20 (sq [m 21 10,o 6 (.cY (.const s0)),m 7 21] .ret) .skip)) (sq [l 22 8 5 8,l 23 9 4 9,m 24 2,c3 25 112 22 23 24,m 6 25,mi 7 0] .ret))))
def ZrV:List Zf:=[(.aK 6),(.aK 7)]
def ZxL:aJ Tryz.prog 45 3 Zk8 ZrV:=bD [(3,3),(8,8),(9,9)] Tryz.func45
def Pm:Ze:=(sq [m0 6] (sq [m 7 1,m 8 0,b 9 .leq 7 8,m 10 9,mt 10 11 0,mt 10 12 2,gt 10 13 (.aY .leq 11 12),pa 14 10 13,m 6 14] .ret))
def r53:List Zf:=[(.aK 6)]
def c53:aJ Tryz.prog 50 3 Pm r53:=bD [] Tryz.func50
def Pj:Ze:=(sq [mi 4 0] (.seq (sq [mi 5 0] (.block 0 (.loop (.seq (sq [m 6 5,m 7 0,le 8 7,b 9 .lss 6 8] (.cond 9 .skip (.exit 0))) (.seq (.block 1 (.seq (sq [m 12 0,m 13 5,ia 14 1 12 13,ld 15 14,m 16 1,bk 17 .sub 16 1,o 18 (.call 50 [15,(k 0),17]),o 19 (.not 18)] (.cond 19 (sq [mi 4 6] .ret) .skip)) (.seq (.drawn [m 20 5,bk 21 .gtr 20 0,m 22 21,mt 22 23 0,mt 22 24 5,gt 22 25 (.bQ 1 23 24),gt 22 26 (.ld none 25),mt 22 27 0,mt 22 28 5,gt 22 29 (.aY .sub 28 (k 1)),gt 22 30 (.bQ 1 27 29),gt 22 31 (.ld none 30),gt 22 32 (.aY .leq 26 31),pa 33 22 32]) (.cond 33 (sq [mi 4 7] .ret) .skip)))) (.aI [m 10 5,bk 11 .add 10 1,m 5 11])))))) (sq [mi 4 0] .ret)))
def r68:List Zf:=[(.aK 4)]
def c68:aJ Tryz.prog 55 2 Pj r68:=bD [] Tryz.func55
def ZkZ:Ze:=(sq [o 0 (.aQ 0 [0] [z0,z0,z0,s0,s0])] (.seq (.aI [o 1 (.call 39 [(k 4)]),o 2 (.build [(.string (.mk #[])),z0,z0,z0,z0] [(0,(1,(.const (.string (.mk #[107,101,101,108]))))),(1,(2,1)),(3,(1,(k 2))),(4,(1,(k 3)))]),o 3 (.call 43 [(k 2),(k 3)]),o 4 (.build [(.string (.mk #[])),z0,z0,z0,z0] [(0,(1,(.const (.string (.mk #[114,105,98]))))),(1,(2,3)),(3,(1,(k 2))),(4,(1,(k 2)))]),o 5 (.call 39 [(k 3)]),o 6 (.build [(.string (.mk #[])),z0,z0,z0,z0] [(0,(1,(.const (.string (.mk #[97,114,109]))))),(1,(2,5)),(3,(1,(k 1))),(4,(1,(k 4)))]),o 7 (.aO 50 3 [(.string (.mk #[])),z0,z0,z0,z0,(.string (.mk #[])),z0,z0,z0,z0,(.string (.mk #[])),z0,z0,z0,z0] [(0,(5,2)),(5,(5,4)),(10,(5,6))]),o 8 (.aO 3 2 [z0,z0] [(0,(1,(k 0))),(1,(1,(k 1)))]),o 9 (.call 43 [(k 6),(k 7)]),o 10 (.build [s0,z0,z0] [(0,(1,8)),(1,(2,9))]),o 11 (.aO 85 1 [s0,z0,z0] [(0,(3,10))]),o 12 (.build [z0,z0,z0,s0,s0] [(0,(1,(k 2))),(1,(1,(k 1))),(2,(1,(k 12))),(3,(1,7)),(4,(1,11))]),ls 0 5 0 12]) .ret))
def ZrM:List Zf:=[(.jH 0 0 (some 5))]
def ZxC:aJ Tryz.prog 80 0 ZkZ ZrM:=bD [(0,0)] Tryz.func80
def ZkV:Ze:=(sq [o 2 (.aP 2 [2] 0),o 4 (.aQ 4 [4] [z0,z0,z0,s0,s0,s0]),mi 5 0] (.seq (sq [l 9 2 5 2,c1 10 71 9,m 6 10] (sq [m 11 6,bk 12 .neq 11 0] (.cond 12 (sq [o 13 (.build [z0,z0,z0,s0,s0,s0] []),m 14 6,ls 4 6 4 13,m 5 14] .ret) .skip))) (sq [l 15 2 5 2,o 16 (.build [z0,z0,z0,s0,s0] [(0,(5,15))]),o 17 (.build [z0,z0,z0,s0,s0,s0] [(0,(5,16))]),o 7 (.aQ 7 [7,19,26,30,31] [z0,z0,z0,s0,s0,s0]),ls 7 6 7 17] (.seq (sq [m 18 1,f 19 0 7,l 20 7 5 19,o 21 (.raw (.call (.mk (.value 18) #[20] #[108])) 29),m 8 21] (sq [m 22 8,bk 23 .neq 22 0] (.cond 23 (sq [o 24 (.build [z0,z0,z0,s0,s0,s0] []),m 25 8,ls 4 6 4 24,m 5 25] .ret) .skip))) (.seq (sq [f 26 0 7,l 27 7 5 26,o 28 (.raw (.makeFunc (.func 83) #[27] #[]) 106),c1 29 82 28,f 30 5 7,ls 7 1 30 29] (sq [f 31 5 7,ln 32 7 31,le 33 32,bk 34 .eql 33 0] (.cond 34 (sq [o 35 (.build [z0,z0,z0,s0,s0,s0] []),ls 4 6 4 35,mi 5 9] .ret) .skip))) (sq [l 36 7 6 7,ls 4 6 4 36,mi 5 0] .ret))))))
def ZrI:List Zf:=[(.jH 4 4 (some 6)),(.aK 5)]
def Zxy:aJ Tryz.prog 85 2 ZkV ZrI:=bD [(2,2),(4,4),(7,7),(19,7),(26,7),(30,7),(31,7)] Tryz.func85
def ZkR:Ze:=(sq [o 3 (.aP 3 [3] 0),mi 4 0] (.seq (sq [l 6 3 5 3,ld 7 1,c2 8 96 6 7,m 5 8] (sq [m 9 5,bk 10 .neq 9 0] (.cond 10 (sq [m 11 5,m 4 11] .ret) .skip))) (.seq (.drawn [ld 12 2,l 14 3 5 3,(c1 13 86 12,(some false)),(o 15 (.raw (.call (.mk (.value 13) #[14] #[108])) 29),none),m 4 15]) .ret)))
def ZrD:List Zf:=[(.aK 4)]
def Zxu:aJ Tryz.prog 95 3 ZkR ZrD:=bD [(3,3)] Tryz.func95
def ZkL:Ze:=(sq [o 1 (.aP 1 [1,3,4] 0),mi 2 0] (sq [f 3 1 1,f 4 1 3,ln 5 1 4,m 2 5] .ret))
def Zrx:List Zf:=[(.aK 2)]
def Zxo:aJ Tryz.prog 105 1 ZkL Zrx:=bD [(1,1),(3,1),(4,1)] Tryz.func105
def ZkC:Ze:=(sq [o 2 (.aP 2 [2,13,14] 0),o 4 (.aQ 4 [4] [z0,z0,z0,s0,s0]),o 5 (.cY (.const s0))] (sq [o 6 (.cY (.const s0))] (sq [l 10 2 5 2,o 7 (.aQ 7 [7,11,12,31,32,37,38] [z0,z0,z0,s0,s0]),ls 7 5 7 10] (sq [f 11 0 7,f 12 4 11,u (.qU 7 1 12 (.const s0))] (.seq (sq [f 13 0 2,f 14 4 13,ln 15 2 14,le 16 15,mi 17 0] (.block 0 (.loop (sq [b 18 .lss 17 16] (.seq (.cond 18 .skip (.exit 0)) (.seq (.block 1 (sq [m 19 17,ia 20 3 15 17,lm 21 3 20,o 9 (.aQ 9 [9] [s0,z0,z0]),m 8 19,ls 9 3 9 21] (sq [m 22 1,m 23 8,o 24 (.bU (.binOp .shr 3 22 23 3) 3),o 25 (.bU (.binOp .and 3 24 (k 1) 3) 3),bk 26 .eql 25 1] (.cond 26 (.drawn [m 27 6,m 28 8,f 31 0 7,f 32 4 31,ln 33 7 32,l 34 9 3 9,u (.build [s0,z0,z0] [(0,(3,34))]),(o 29 (.aO 3 1 [z0] [(0,(1,28))]),(some false)),u (.build [s0,z0,z0] [(0,(3,34))]),(o 30 (.raw (.call (.mk (.builtin .append) #[27,29] #[26,26])) 26),(some false)),(o 35 (.aO 85 1 [s0,z0,z0] [(0,(3,34))]),(some false)),(o 36 (.raw (.call (.mk (.builtin .append) #[33,35] #[23,23])) 23),none),m 6 30,f 37 0 7,f 38 4 37,ls 7 1 38 36]) .skip)))) (.aI [bk 39 .add 17 1,m 17 39]))))))) (sq [l 40 7 5 7,m 41 6,ls 4 5 4 40,m 5 41] .ret))))))
def Zro:List Zf:=[(.jH 4 4 (some 5)),(.aK 5)]
def Zxf:aJ Tryz.prog 115 2 ZkC Zro:=bD [(2,2),(4,4),(7,7),(9,9),(11,7),(12,7),(13,2),(14,2),(31,7),(32,7),(37,7),(38,7)] Tryz.func115
def ZjF:Ze:=(sq [o 3 (.aP 3 [3,8,12,14,19] 0),m0 6] (sq [m 7 1,f 8 0 3,ln 9 3 8,b 10 .leq 7 9,m 11 10,gt 11 12 (.aU 0 3),gt 11 13 (.dA 3 none 12),gt 11 14 (.aU 1 3),gt 11 15 (.dA 3 none 14),gt 11 16 (.aY .leq 13 15),pa 17 11 16,m 18 17,gt 18 19 (.aU 1 3),gt 18 20 (.dA 3 none 19),mt 18 21 2,gt 18 22 (.aY .leq 20 21),pa 23 18 22,m 6 23] .ret))
def Zqm:List Zf:=[(.aK 6)]
def Zwi:aJ Tryz.prog 125 3 ZjF Zqm:=bD [(3,3),(8,3),(12,3),(14,3),(19,3)] Tryz.func125
def Zkv:Ze:=(sq [o 2 (.aP 2 [2,8,9] 0),mi 4 0] (.seq (.block 0 (sq [m 6 1,le 7 6,f 8 0 2,f 9 3 8,ln 10 2 9,le 11 10,b 12 .neq 7 11,m 5 12] (.cond 5 (sq [mi 4 2] .ret) (sq [m 14 1,o 15 (.call 166 [14,(.func 167)]),m 13 15] (.cond 13 (sq [mi 4 1] .ret) .skip))))) (sq [mi 4 0] .ret)))
def Zrh:List Zf:=[(.aK 4)]
def Zw8:aJ Tryz.prog 130 2 Zkv Zrh:=bD [(2,2),(8,2),(9,2)] Tryz.func130
def ZjE:Ze:=(sq [m1 8] (sq [m1 9] (.block 0 (.loop (.block 1 (sq [m 19 2,m 20 1,b 21 .sub 19 20,m 10 21] (.seq (sq [m 22 10,bk 23 .leq 22 12] (.cond 23 (sq [m 24 0,m 25 1,m 26 2,c3 27 171 24 25 26] .ret) .skip)) (.seq (sq [m 28 3,bk 29 .eql 28 0] (.cond 29 (sq [m 30 0,m 31 1,m 32 2,c3 33 172 30 31 32] .ret) .skip)) (.seq (sq [m 34 8,o 35 (.not 34)] (.cond 35 (sq [m 36 0,m 37 1,m 38 2,c3 39 173 36 37 38] (.aI [m 40 3,bk 41 .sub 40 1,m 3 41])) .skip)) (sq [m 43 0,m 44 1,m 45 2,c3 46 174 43 44 45,m 42 46,x 47 42 0,x 48 42 1,m 11 47,m 12 48] (.seq (sq [m 49 12,bk 50 .eql 49 2] (.cond 50 (sq [m 51 0,m 52 1,m 53 2,c3 54 175 51 52 53] (sq [m 55 2,bk 56 .sub 55 1,m 57 11,m 58 1,b 59 .sub 57 58,b 60 .sub 56 59,m 11 60] (.aI [mi 12 1]))) .skip)) (.seq (sq [m 61 8,m 62 61,mt 62 63 9,pa 64 62 63,m 65 64,mt 65 66 12,gt 65 67 (.aY .eql 66 (k 1)),pa 68 65 67] (.cond 68 (sq [m 69 0,m 70 1,m 71 2,c3 72 176 69 70 71] (.cond 72 .ret .skip)) .skip)) (.seq (.seq (.drawn [m 73 1,bk 74 .gtr 73 0,m 75 74,mt 75 76 0,mt 75 77 1,gt 75 78 (.aY .sub 77 (k 1)),gt 75 79 (.bQ 1 76 78),gt 75 80 (.ld none 79),mt 75 81 0,mt 75 82 11,gt 75 83 (.bQ 1 81 82),gt 75 84 (.ld none 83),gt 75 85 (.call 177 [80,84]),gt 75 86 (.not 85),pa 87 75 86]) (.cond 87 (sq [m 88 0,m 89 1,m 90 2,m 91 11,o 92 (.call 178 [88,89,90,91]),m 13 92] (sq [m 93 13,m 1 93] (.exit 1))) .skip)) (sq [m 95 0,m 96 1,m 97 2,m 98 11,o 99 (.call 179 [95,96,97,98]),m 94 99,x 100 94 0,x 101 94 1,m 14 100,m 15 101] (sq [m 102 15,m 9 102] (sq [m 103 14,m 104 1,b 105 .sub 103 104,m 106 2,m 107 14,b 108 .sub 106 107,m 16 105,m 17 108] (sq [m 109 10,o 110 (.bU (.binOp .quo 3 109 (k 8) 3) 3),m 18 110] (sq [m 111 16,m 112 17,b 113 .lss 111 112] (.cond 113 (sq [m 114 16,m 115 18,b 116 .geq 114 115,m 8 116] (sq [m 117 0,m 118 1,m 119 14,m 120 3,o 121 (.call 140 [117,118,119,120])] (.aI [m 122 14,bk 123 .add 122 1,m 1 123]))) (sq [m 124 17,m 125 18,b 126 .geq 124 125,m 8 126] (sq [m 127 0,m 128 14,bk 129 .add 128 1,m 130 2,m 131 3,o 132 (.call 140 [127,129,130,131])] (.aI [m 133 14,m 2 133]))))))))))))))))))))))
def Zql:List Zf:=[]
def Zwh:aJ Tryz.prog 140 4 ZjE Zql:=bD [] Tryz.func140
def Zkl:Ze:=(sq [m0 4] (sq [m 5 0,m 6 1,c2 7 183 5 6,bk 8 .geq 7 0,m 4 8] .ret))
def Zq6:List Zf:=[(.aK 4)]
def ZwY:aJ Tryz.prog 145 2 Zkl Zq6:=bD [] Tryz.func145
def Zkh:Ze:=(sq [o 2 (.aP 2 [2,5] 0),o 3 (.aP 3 [3,7] 1),mi 4 0] (sq [f 5 0 2,ln 6 2 5,f 7 0 3,ln 8 3 7,c2 9 117 6 8,m 4 9] .ret))
def Zq1:List Zf:=[(.aK 4)]
def ZwU:aJ Tryz.prog 155 2 Zkh Zq1:=bD [(2,2),(3,3),(5,2),(7,3)] Tryz.func155
def Zkd:Ze:=(sq [mi 5 0] (.seq (.drawn [ld 6 2,m 7 0,ia 8 4 6 7,o 9 (.aN 1 8),ld 10 9,ld 11 2,m 12 1,ia 13 4 11 12,o 14 (.aN 1 13),ld 15 14,b 16 .sub 10 15,m 5 16]) .ret))
def ZqX:List Zf:=[(.aK 5)]
def ZwQ:aJ Tryz.prog 160 3 Zkd ZqX:=bD [] Tryz.func160
def Zj6:Ze:=(sq [o 2 (.aP 2 [2,7,21,22,24,25] 0),m0 3] (sq [mi 4 0] (.seq (sq [f 7 0 2,ln 8 2 7,le 9 8,mi 10 0] (.block 0 (.loop (sq [b 11 .lss 10 9] (.seq (.cond 11 .skip (.exit 0)) (.seq (.block 1 (sq [ia 12 1 8 10,ld 13 12,m 6 13] (.aI [m 14 4,m 15 6,o 16 (.raw (.indexAddr 105 1 15) 0),ld 17 16,b 18 .add 14 17,m 4 18]))) (.aI [bk 19 .add 10 1,m 10 19]))))))) (sq [m 20 4,f 21 1 2,f 22 0 21,ln 23 2 22,f 24 1 2,f 25 1 24,ln 26 2 25,c3 27 168 20 23 26,o 28 (.not 27),m 3 28] .ret))))
def ZqQ:List Zf:=[(.aK 3)]
def ZwJ:aJ Tryz.prog 170 2 Zj6 ZqQ:=bD [(2,2),(7,2),(21,2),(22,2),(24,2),(25,2)] Tryz.func170
def Zjp:Ze:=(sq [m 8 1,m 6 8] (sq [m 9 2,bk 10 .sub 9 1,m 7 10] (.block 0 (.loop (.seq (sq [m 11 6,m 12 7,b 13 .lss 11 12] (.cond 13 .skip (.exit 0))) (.block 1 (.seq (.drawn [m 14 0,m 15 6,m 16 0,m 17 7,m 18 0,m 19 7,ia 20 1 18 19,ld 21 20,m 22 0,m 23 6,ia 24 1 22 23,ld 25 24,ia 26 1 14 15,(st 3 26 21 0,(some false)),ia 27 1 16 17,st 3 27 25 0]) (sq [m 28 6,bk 29 .add 28 1,m 6 29] (.aI [m 30 7,bk 31 .sub 30 1,m 7 31])))))))))
def Zp7:List Zf:=[]
def Zv2:aJ Tryz.prog 175 3 Zjp Zp7:=bD [] Tryz.func175
def Kx:Ze:=(sq [m0 5] (.seq (sq [m 7 0,le 8 7,o 9 (.aN 0 1),o 10 (.aN 3 9),ld 11 10,le 12 11,b 13 .eql 8 12] (.cond 13 (sq [ld 14 2,m 15 0,o 16 (.raw (.call (.mk (.value 14) #[15] #[26])) 4),m 5 16] .ret) .skip)) (.seq (sq [o 17 (.aN 0 1),o 18 (.aN 3 17),ld 19 18,le 20 19,mi 21 0] (.block 0 (.loop (sq [b 22 .lss 21 20] (.seq (.cond 22 .skip (.exit 0)) (.seq (.block 1 (sq [m 23 21,m 6 23] (.seq (.j0 [[(m 24 0,none),(m 25 6,none),(c2 26 145 24 25,none),(o 27 (.not 26),none),(m 28 27,none),(gt 28 29 (.ld none 3),none),(mt 28 30 0,none),(mt 28 32 6,none),(gt 28 33 (.aO 3 1 [z0] [(0,(1,32))]),(some true)),(gt 28 31 (.call 157 [30]),(some true)),(gt 28 34 (.raw (.call (.mk (.builtin .append) #[31,33] #[26,26])) 26),none),(gt 28 35 (.raw (.call (.mk (.value 29) #[34] #[26])) 4),none),(gt 28 36 (.not 35),none),(pa 37 28 36,none)],[(m 24 0,none),(m 25 6,none),(c2 26 145 24 25,none),(o 27 (.not 26),none),(m 28 27,none),(gt 28 29 (.ld none 3),none),(mt 28 30 0,none),(mt 28 32 6,none),(gt 28 31 (.call 157 [30]),(some true)),(gt 28 33 (.aO 3 1 [z0] [(0,(1,32))]),(some true)),(gt 28 34 (.raw (.call (.mk (.builtin .append) #[31,33] #[26,26])) 26),none),(gt 28 35 (.raw (.call (.mk (.value 29) #[34] #[26])) 4),none),(gt 28 36 (.not 35),none),(pa 37 28 36,none)],[(m 24 0,none),(m 25 6,none),(c2 26 145 24 25,none),(o 27 (.not 26),none),(m 28 27,none),(mt 28 30 0,none),(mt 28 32 6,none),(gt 28 33 (.aO 3 1 [z0] [(0,(1,32))]),(some false)),(gt 28 31 (.call 157 [30]),none),(gt 28 34 (.raw (.call (.mk (.builtin .append) #[31,33] #[26,26])) 26),none),(gt 28 29 (.ld none 3),none),(gt 28 35 (.raw (.call (.mk (.value 29) #[34] #[26])) 4),none),(gt 28 36 (.not 35),none),(pa 37 28 36,none)],[(m 24 0,none),(m 25 6,none),(c2 26 145 24 25,none),(o 27 (.not 26),none),(m 28 27,none),(mt 28 30 0,none),(mt 28 32 6,none),(gt 28 31 (.call 157 [30]),(some false)),(gt 28 33 (.aO 3 1 [z0] [(0,(1,32))]),none),(gt 28 34 (.raw (.call (.mk (.builtin .append) #[31,33] #[26,26])) 26),none),(gt 28 29 (.ld none 3),none),(gt 28 35 (.raw (.call (.mk (.value 29) #[34] #[26])) 4),none),(gt 28 36 (.not 35),none),(pa 37 28 36,none)]]) (.cond 37 (sq [m0 5] .ret) .skip)))) (.aI [bk 38 .add 21 1,m 21 38]))))))) (sq [m1 5] .ret))))
def ZqN:List Zf:=[(.aK 5)]
def Zm1:aJ Tryz.prog 199 4 Kx ZqN:=bD [] Tryz.func199
def Zjf:Ze:=(sq [m 10 1,m 8 10] (.block 0 (.loop (.block 1 (sq [m 11 8,o 12 (.aY .mul (k 2) 11),bk 13 .add 12 1,m 9 13] (.seq (sq [m 14 9,m 15 2,b 16 .geq 14 15] (.cond 16 (.exit 0) .skip)) (.seq (.seq (.drawn [m 17 9,bk 18 .add 17 1,m 19 2,b 20 .lss 18 19,m 21 20,mt 21 22 0,mt 21 23 3,mt 21 24 9,gt 21 25 (.aY .add 23 24),gt 21 26 (.bQ 1 22 25),gt 21 27 (.ld none 26),mt 21 28 0,mt 21 29 3,mt 21 30 9,gt 21 31 (.aY .add 29 30),gt 21 32 (.aY .add 31 (k 1)),gt 21 33 (.bQ 1 28 32),gt 21 34 (.ld none 33),gt 21 35 (.call 177 [27,34]),pa 36 21 35]) (.cond 36 (.aI [m 37 9,bk 38 .add 37 1,m 9 38]) .skip)) (.seq (.seq (.drawn [m 39 0,m 40 3,m 41 8,b 42 .add 40 41,ia 43 1 39 42,ld 44 43,m 45 0,m 46 3,m 47 9,b 48 .add 46 47,ia 49 1 45 48,ld 50 49,c2 51 177 44 50,o 52 (.not 51)]) (.cond 52 .ret .skip)) (.seq (.drawn [(m 53 0,none),(m 54 3,none),(m 55 8,none),(b 56 .add 54 55,none),(m 57 0,none),(m 58 3,none),(m 59 9,none),(b 60 .add 58 59,none),(m 61 0,none),(m 62 3,none),(m 63 9,none),(b 64 .add 62 63,none),(ia 65 1 61 64,none),(ld 66 65,none),(m 67 0,none),(m 68 3,none),(m 69 8,none),(b 70 .add 68 69,none),(ia 71 1 67 70,none),(ld 72 71,none),(ia 73 1 53 56,none),(st 3 73 66 0,(some false)),(ia 74 1 57 60,none),(st 3 74 72 0,none)]) (.aI [m 75 9,m 8 75]))))))))))
def ZpY:List Zf:=[]
def ZvS:aJ Tryz.prog 219 4 Zjf ZpY:=bD [] Tryz.func219
def Kz:Ze:=(sq [m 10 1,bk 11 .add 10 1,m 8 11] (.block 0 (.loop (.seq (sq [m 12 8,m 13 2,b 14 .lss 12 13] (.cond 14 .skip (.exit 0))) (.seq (.block 1 (sq [m 17 8,m 9 17] (.block 2 (.loop (.seq (.seq (.drawn [m 18 9,m 19 1,b 20 .gtr 18 19,m 21 20,mt 21 22 3,mt 21 23 0,mt 21 24 9,gt 21 25 (.bQ 8 23 24),gt 21 26 (.ld (some 8) 25),mt 21 27 0,mt 21 28 9,gt 21 29 (.aY .sub 28 (k 1)),gt 21 30 (.bQ 8 27 29),gt 21 31 (.ld (some 8) 30),(gt 21 32 (.raw (.call (.mk (.value 22) #[26,31] #[122,122])) 3),none),gt 21 33 (.aY .lss 32 (k 0)),pa 34 21 33]) (.cond 34 .skip (.exit 2))) (.seq (.block 3 (.drawn [m 37 0,m 38 9,m 39 0,m 40 9,bk 41 .sub 40 1,m 42 0,m 43 9,bk 44 .sub 43 1,ia 45 8 42 44,lm 46 8 45,m 47 0,m 48 9,ia 49 8 47 48,lm 50 8 49,ia 51 8 37 38,(st 122 51 46 0,(some false)),ia 52 8 39 41,st 122 52 50 0])) (.aI [m 35 9,bk 36 .sub 35 1,m 9 36]))))))) (.aI [m 15 8,bk 16 .add 15 1,m 8 16]))))))
def ZqH:List Zf:=[]
def Xp:aJ Tryz.prog 233 4 Kz ZqH:=bD [] Tryz.func233
def ZjV:Ze:=(sq [m0 8] (sq [m 13 1,bk 14 .add 13 1,m 9 14] (.seq (sq [mi 10 0] (.block 0 (.loop (.seq (sq [m 15 10,bk 16 .lss 15 5] (.cond 16 .skip (.exit 0))) (.seq (.block 1 (.seq (.block 2 (.loop (.seq (.seq (.drawn [m 19 9,m 20 2,b 21 .lss 19 20,m 22 21,mt 22 23 3,mt 22 24 0,mt 22 25 9,gt 22 26 (.bQ 8 24 25),gt 22 27 (.ld (some 8) 26),mt 22 28 0,mt 22 29 9,gt 22 30 (.aY .sub 29 (k 1)),gt 22 31 (.bQ 8 28 30),gt 22 32 (.ld (some 8) 31),(gt 22 33 (.raw (.call (.mk (.value 23) #[27,32] #[122,122])) 3),none),gt 22 34 (.aY .lss 33 (k 0)),gt 22 35 (.not 34),pa 36 22 35]) (.cond 36 .skip (.exit 2))) (.block 3 (.aI [m 37 9,bk 38 .add 37 1,m 9 38]))))) (.seq (sq [m 39 9,m 40 2,b 41 .eql 39 40] (.cond 41 (sq [m1 8] .ret) .skip)) (.seq (sq [m 42 2,m 43 1,b 44 .sub 42 43,bk 45 .lss 44 50] (.cond 45 (sq [m0 8] .ret) .skip)) (.seq (.drawn [m 46 0,m 47 9,m 48 0,m 49 9,bk 50 .sub 49 1,m 51 0,m 52 9,bk 53 .sub 52 1,ia 54 8 51 53,lm 55 8 54,m 56 0,m 57 9,ia 58 8 56 57,lm 59 8 58,ia 60 8 46 47,(st 122 60 55 0,(some false)),ia 61 8 48 50,st 122 61 59 0]) (.seq (sq [m 62 9,m 63 1,b 64 .sub 62 63,bk 65 .geq 64 2] (.cond 65 (sq [m 66 9,bk 67 .sub 66 1,m 11 67] (.block 4 (.loop (.seq (sq [m 68 11,bk 69 .geq 68 1] (.cond 69 .skip (.exit 4))) (.seq (.block 5 (.seq (.seq (.drawn [m 72 3,m 73 0,m 74 11,ia 75 8 73 74,lm 76 8 75,m 77 0,m 78 11,bk 79 .sub 78 1,ia 80 8 77 79,lm 81 8 80,(o 82 (.raw (.call (.mk (.value 72) #[76,81] #[122,122])) 3),none),bk 83 .lss 82 0,o 84 (.not 83)]) (.cond 84 (.exit 4) .skip)) (.drawn [m 85 0,m 86 11,m 87 0,m 88 11,bk 89 .sub 88 1,m 90 0,m 91 11,bk 92 .sub 91 1,ia 93 8 90 92,lm 94 8 93,m 95 0,m 96 11,ia 97 8 95 96,lm 98 8 97,ia 99 8 85 86,(st 122 99 94 0,(some false)),ia 100 8 87 89,st 122 100 98 0]))) (.aI [m 70 11,bk 71 .sub 70 1,m 11 71])))))) .skip)) (sq [m 101 2,m 102 9,b 103 .sub 101 102,bk 104 .geq 103 2] (.cond 104 (sq [m 105 9,bk 106 .add 105 1,m 12 106] (.block 6 (.loop (.seq (sq [m 107 12,m 108 2,b 109 .lss 107 108] (.cond 109 .skip (.exit 6))) (.seq (.block 7 (.seq (.seq (.drawn [m 112 3,m 113 0,m 114 12,ia 115 8 113 114,lm 116 8 115,m 117 0,m 118 12,bk 119 .sub 118 1,ia 120 8 117 119,lm 121 8 120,(o 122 (.raw (.call (.mk (.value 112) #[116,121] #[122,122])) 3),none),bk 123 .lss 122 0,o 124 (.not 123)]) (.cond 124 (.exit 6) .skip)) (.drawn [m 125 0,m 126 12,m 127 0,m 128 12,bk 129 .sub 128 1,m 130 0,m 131 12,bk 132 .sub 131 1,ia 133 8 130 132,lm 134 8 133,m 135 0,m 136 12,ia 137 8 135 136,lm 138 8 137,ia 139 8 125 126,(st 122 139 134 0,(some false)),ia 140 8 127 129,st 122 140 138 0]))) (.aI [m 110 12,bk 111 .add 110 1,m 12 111])))))) .skip)))))))) (.aI [m 17 10,bk 18 .add 17 1,m 10 18])))))) (sq [m0 8] .ret))))
def ZqC:List Zf:=[(.aK 8)]
def Zwy:aJ Tryz.prog 238 4 ZjV ZqC:=bD [] Tryz.func238
def ZjQ:Ze:=(sq [mi 8 0] (sq [m 9 0,m 10 1,bk 11 .sub 10 1,m 12 1,m 13 1,bk 14 .add 13 1,m 15 2,m 16 3,o 17 (.call 256 [9,11,12,14,15,16]),m 8 17] .ret))
def Zqx:List Zf:=[(.aK 8)]
def Zwt:aJ Tryz.prog 255 4 ZjQ Zqx:=bD [] Tryz.func255
def ZjJ:Ze:=(sq [m0 4] (sq [m 5 0,m 6 1,c2 7 283 5 6,bk 8 .geq 7 0,m 4 8] .ret))
def Zqq:List Zf:=[(.aK 4)]
def Zwm:aJ Tryz.prog 281 2 ZjJ Zqq:=bD [] Tryz.func281
def Zli:Ze:=(sq [o 2 (.aP 2 [2] 0),o 4 (.cY (.const s0)),mi 5 0] (.seq (.drawn [l 12 2 5 2,m 13 1,o 6 (.aQ 6 [6,21] [z0,z0,z0,s0,s0,s0]),(c1 14 86 13,(some false)),(c2 15 85 12 14,(some false)),m 11 15,x 16 11 0,x 17 11 1,ls 6 6 6 16,m 7 17]) (.seq (sq [m 18 7,bk 19 .neq 18 0] (.cond 19 (sq [m 20 7,o 4 (.cY (.const s0)),m 5 20] .ret) .skip)) (sq [o 8 (.cY (.const s0))] (.seq (sq [f 21 5 6,ln 22 6 21,le 23 22,mi 24 0] (.block 0 (.loop (sq [b 25 .lss 24 23] (.seq (.cond 25 .skip (.exit 0)) (.seq (.block 1 (sq [ia 26 4 22 24,lm 27 4 26,o 10 (.aQ 10 [10,30] [z0,z0,z0,z0]),ls 10 4 10 27] (.aI [m 28 8,m 29 1,o 30 (.fC 1 4 10 29),ln 31 10 30,o 32 (.aO 3 1 [z0] [(0,(1,31))]),o 33 (.raw (.call (.mk (.builtin .append) #[28,32] #[26,26])) 26),m 8 33]))) (.aI [bk 34 .add 24 1,m 24 34]))))))) (sq [m 35 8,c1 36 87 35] (sq [m 37 8,c1 38 88 37,m 4 38,mi 5 0] .ret)))))))
def Zr5:List Zf:=[(.aK 4),(.aK 5)]
def ZxV:aJ Tryz.prog 21 2 Zli Zr5:=bD [(2,2),(6,6),(10,10),(21,6),(30,10)] Tryz.func21
def Zlg:Ze:=(sq [o 3 (.aP 3 [3] 0),o 4 (.raw (.box 26 1) 0),o 5 (.raw (.box 3 2) 0),mi 6 0,mi 7 0] (sq [l 11 3 5 3,o 12 (.raw (.makeFunc (.func 95) #[] #[4,5]) 113),c2 13 85 11 12,m 10 13,x 14 10 0,x 15 10 1,o 8 (.aQ 8 [8] [z0,z0,z0,s0,s0,s0]),ls 8 6 8 14,m 9 15] (.seq (sq [m 16 9,bk 17 .neq 16 0] (.cond 17 (sq [m 18 9,mi 6 0,m 7 18] .ret) .skip)) (.seq (.drawn [l 19 8 6 8,l 20 8 6 8,ld 21 4,ld 24 5,(c2 22 93 20 21,(some true)),o 23 (.lR 4 (some 4) 22),(o 25 (.raw (.index 104 23 24) 3),(some false)),c2 26 97 19 25,m 6 26,mi 7 0]) .ret))))
def Zr3:List Zf:=[(.aK 6),(.aK 7)]
def ZxT:aJ Tryz.prog 26 3 Zlg Zr3:=bD [(3,3),(8,8)] Tryz.func26
def Zk7:Ze:=(sq [o 3 (.aP 3 [3] 0),o 6 (.cY (.const s0)),mi 7 0] (sq [l 15 3 5 3,m 16 1,m 17 2,c3 18 111 15 16 17,m 14 18,x 19 14 0,x 20 14 1,x 21 14 2,o 8 (.aQ 8 [8] [z0,z0,z0,s0,s0]),o 9 (.aQ 9 [9] [z0,z0,z0,z0]),ls 8 5 8 19,ls 9 4 9 20,m 10 21] (.seq (sq [m 22 10,bk 23 .neq 22 0] (.cond 23 (sq [m 24 10,o 6 (.cY (.const s0)),m 7 24] .ret) .skip)) (sq [o 11 (.cY (.const s0))] (.seq (sq [l 25 8 5 8,l 26 9 4 9,m 27 2,c3 28 113 25 26 27,o 29 (.lR 0 (some 4) 28),mi 30 0] (.block 0 (.loop (sq [bk 31 .lss 30 4] (.seq (.cond 31 .skip (.exit 0)) (.seq (.block 1 (sq [m 32 30,o 33 (.raw (.index 145 29 30) 4),m 12 32,m 13 33] (sq [m 34 13] (.cond 34 (.aI [m 35 11,m 36 12,o 37 (.aO 3 1 [z0] [(0,(1,36))]),o 38 (.raw (.call (.mk (.builtin .append) #[35,37] #[26,26])) 26),m 11 38]) .skip)))) (.aI [bk 39 .add 30 1,m 30 39]))))))) (sq [m 40 11,m 6 40,mi 7 0] .ret))))))
def ZrU:List Zf:=[(.aK 6),(.aK 7)]
def ZxK:aJ Tryz.prog 46 3 Zk7 ZrU:=bD [(3,3),(8,8),(9,9)] Tryz.func46
def Zk3:Ze:=(sq [o 2 (.aP 2 [2,8] 0),o 3 (.aP 3 [3] 1),o 4 (.aQ 4 [4] [z0,z0,z0,s0,s0])] (sq [l 6 2 5 2,o 5 (.aQ 5 [5,14] [z0,z0,z0,s0,s0]),ls 5 5 5 6] (.seq (.drawn [f 8 4 2,ln 9 2 8,l 11 3 3 3,u (.build [s0,z0,z0] [(0,(3,11))]),(o 7 (.raw (.buildSlice 23 0 #[]) 23),(some false)),u (.build [s0,z0,z0] [(0,(3,11))]),(o 10 (.raw (.call (.mk (.builtin .append) #[7,9] #[23,23])) 23),(some false)),(o 12 (.aO 85 1 [s0,z0,z0] [(0,(3,11))]),(some false)),(o 13 (.raw (.call (.mk (.builtin .append) #[10,12] #[23,23])) 23),none),f 14 4 5,ls 5 1 14 13]) (sq [l 15 5 5 5,ls 4 5 4 15] .ret))))
def ZrQ:List Zf:=[(.jH 4 4 (some 5))]
def ZxG:aJ Tryz.prog 66 2 Zk3 ZrQ:=bD [(2,2),(3,3),(4,4),(5,5),(8,2),(14,5)] Tryz.func66
def Zk1:Ze:=(sq [o 1 (.aP 1 [1] 0),mi 2 0] (.seq (sq [o 6 (.ld (some 3) (.global 0)),mi 7 0] (.block 0 (.loop (sq [bk 8 .lss 7 3] (.seq (.cond 8 .skip (.exit 0)) (.seq (.block 1 (sq [o 9 (.raw (.index 165 6 7) 113),m 4 9] (sq [m 10 4,l 11 1 5 1,o 12 (.build [z0,z0,z0,s0,s0] [(0,(5,11))]),o 13 (.raw (.call (.mk (.value 10) #[12] #[108])) 29),m 5 13] (sq [m 14 5,bk 15 .neq 14 0] (.cond 15 (sq [m 16 5,m 2 16] .ret) .skip))))) (.aI [bk 17 .add 7 1,m 7 17]))))))) (sq [mi 2 0] .ret)))
def ZrO:List Zf:=[(.aK 2)]
def ZxE:aJ Tryz.prog 71 1 Zk1 ZrO:=bD [(1,1)] Tryz.func71
def ZkY:Ze:=(sq [m0 4] (sq [m 5 0,m 6 1,c2 7 23 5 6,m 4 7] .ret))
def ZrL:List Zf:=[(.aK 4)]
def ZxB:aJ Tryz.prog 81 2 ZkY ZrL:=bD [] Tryz.func81
def ZkU:Ze:=(sq [o 1 (.raw (.box 3 0) 0),o 2 (.cY (.const .nilFunc))] (sq [o 3 (.raw (.makeFunc (.func 138) #[] #[1]) 113),m 2 3] .ret))
def ZrH:List Zf:=[(.aK 2)]
def Zxx:aJ Tryz.prog 86 1 ZkU ZrH:=bD [] Tryz.func86
def ZkQ:Ze:=(sq [o 2 (.aP 2 [2,9,10] 0),mi 4 0] (.seq (sq [m 7 1,le 8 7,f 9 0 2,f 10 3 9,ln 11 2 10,le 12 11,b 13 .neq 8 12] (.cond 13 (sq [mi 4 2] .ret) .skip)) (.seq (sq [m 14 1,le 15 14,mi 16 0] (.block 0 (.loop (sq [b 17 .lss 16 15] (.seq (.cond 17 .skip (.exit 0)) (.seq (.block 1 (sq [m 18 16,ia 19 1 14 16,ld 20 19,m 5 18,m 6 20] (.block 2 (sq [l 22 2 5 2,m 23 6,c2 24 139 22 23,o 25 (.not 24),m 21 25] (.cond 21 (sq [mi 4 6] .ret) (sq [m 27 1,m 28 5,o 29 (.bU (.slice 26 27 none (some 28) none) 26),m 30 6,c2 31 145 29 30,m 26 31] (.cond 26 (sq [mi 4 5] .ret) .skip))))))) (.aI [bk 32 .add 16 1,m 16 32]))))))) (sq [mi 4 0] .ret))))
def ZrC:List Zf:=[(.aK 4)]
def Zxt:aJ Tryz.prog 96 2 ZkQ ZrC:=bD [(2,2),(9,2),(10,2)] Tryz.func96
def ZkO:Ze:=(sq [o 1 (.aP 1 [1] 0),mi 2 0] (sq [mi 2 0] .ret))
def ZrA:List Zf:=[(.aK 2)]
def Zxr:aJ Tryz.prog 101 1 ZkO ZrA:=bD [(1,1)] Tryz.func101
def ZkK:Ze:=(sq [o 3 (.aP 3 [3,8,12,14,19] 0),m0 6] (sq [m 7 1,f 8 0 3,ln 9 3 8,b 10 .leq 7 9,m 11 10,gt 11 12 (.aU 0 3),gt 11 13 (.dA 3 none 12),gt 11 14 (.aU 1 3),gt 11 15 (.dA 3 none 14),gt 11 16 (.aY .leq 13 15),pa 17 11 16,m 18 17,gt 18 19 (.aU 1 3),gt 18 20 (.dA 3 none 19),mt 18 21 2,gt 18 22 (.aY .leq 20 21),pa 23 18 22,m 6 23] .ret))
def Zrw:List Zf:=[(.aK 6)]
def Zxn:aJ Tryz.prog 106 3 ZkK Zrw:=bD [(3,3),(8,3),(12,3),(14,3),(19,3)] Tryz.func106
def ZkG:Ze:=(sq [o 3 (.aP 3 [3] 0),o 6 (.aQ 6 [6] [z0,z0,z0,s0,s0]),o 7 (.aQ 7 [7] [z0,z0,z0,z0]),mi 8 0] (.seq (sq [l 13 3 5 3,c1 14 71 13,m 9 14] (sq [m 15 9,bk 16 .neq 15 0] (.cond 16 (sq [o 17 (.build [z0,z0,z0,s0,s0] []),o 18 (.build [z0,z0,z0,z0] []),m 19 9,ls 6 5 6 17,ls 7 4 7 18,m 8 19] .ret) .skip))) (sq [l 20 3 5 3,o 21 (.build [z0,z0,z0,s0,s0] [(0,(5,20))]),o 10 (.aQ 10 [10] [z0,z0,z0,s0,s0]),ls 10 5 10 21] (.seq (sq [l 22 10 5 10,m 23 1,c2 24 130 22 23,m 11 24] (sq [m 25 11,bk 26 .neq 25 0] (.cond 26 (sq [o 27 (.build [z0,z0,z0,s0,s0] []),o 28 (.build [z0,z0,z0,z0] []),m 29 11,ls 6 5 6 27,ls 7 4 7 28,m 8 29] .ret) .skip))) (.seq (sq [l 30 10 5 10,m 31 2,c2 32 96 30 31,m 12 32] (sq [m 33 12,bk 34 .neq 33 0] (.cond 34 (sq [o 35 (.build [z0,z0,z0,s0,s0] []),o 36 (.build [z0,z0,z0,z0] []),m 37 12,ls 6 5 6 35,ls 7 4 7 36,m 8 37] .ret) .skip))) (.seq (.drawn [l 38 10 5 10,m 39 1,(c1 40 131 39,(some false)),ls 6 5 6 38,ls 7 4 7 40,mi 8 0]) .ret))))))
def Zrs:List Zf:=[(.jH 6 6 (some 5)),(.jH 7 7 (some 4)),(.aK 8)]
def Zxj:aJ Tryz.prog 111 3 ZkG Zrs:=bD [(3,3),(6,6),(7,7),(10,10)] Tryz.func111
def ZkB:Ze:=(sq [m 5 0,le 6 5,m 4 6] (.aI [m 7 0,m 8 4,m 9 4,o 10 (.bU (.convert 3 176 9) 176),c1 11 141 10,m 12 1,o 13 (.call 161 [7,(k 0),8,11,12])]))
def Zrn:List Zf:=[]
def Zxe:aJ Tryz.prog 116 2 ZkB Zrn:=bD [] Tryz.func116
def Zkx:Ze:=(sq [mi 2 0] (.seq (sq [m 6 0,le 7 6,o 8 (.call 50 [7,(k 1),(k 4)]),o 9 (.not 8)] (.cond 9 (sq [mi 2 2] .ret) .skip)) (.seq (sq [mi 3 0] (.block 0 (.loop (.seq (sq [m 10 3,m 11 0,le 12 11,b 13 .lss 10 12] (.cond 13 .skip (.exit 0))) (.seq (.block 1 (.seq (.aI [m 16 0,m 17 3,ia 18 5 16 17,lm 19 5 18,o 4 (.aQ 4 [4,20,34,37,42,43,45,46,52,58] [(.string (.mk #[])),z0,z0,z0,z0]),ls 4 5 4 19]) (.seq (sq [f 20 0 4,ln 21 4 20,c1 22 164 21,o 23 (.not 22)] (.cond 23 (sq [mi 2 4] .ret) .skip)) (.seq (sq [mi 5 0] (.block 2 (.loop (.seq (sq [m 24 5,m 25 3,b 26 .lss 24 25] (.cond 26 .skip (.exit 2))) (.seq (.block 3 (.seq (.drawn [m 29 0,m 30 5,ia 31 5 29 30,o 32 (.aN 0 31),ld 33 32,f 34 0 4,ln 35 4 34,o 36 (.bU (.binOp .eql 9 33 35 9) 4)]) (.cond 36 (sq [mi 2 5] .ret) .skip))) (.aI [m 27 5,bk 28 .add 27 1,m 5 28])))))) (sq [f 37 1 4,l 38 4 2 37,o 39 (.call 125 [38,(k 1),(k 20)]),o 40 (.not 39),m 41 40,gf 41 42 (.aU 1 4),gf 41 43 (.aU 1 42),gf 41 44 (.dA 4 none 43),gf 41 45 (.aU 1 4),gf 41 46 (.aU 0 45),gf 41 47 (.dA 4 none 46),gf 41 48 (.aY .sub 44 47),gf 41 49 (.aY .geq 48 (k 3)),po 50 41 49,m 51 50,gf 51 52 (.aU 3 4),gf 51 53 (.dA 4 none 52),gf 51 54 (.call 50 [53,(k 1),(k 20)]),gf 51 55 (.not 54),po 56 51 55,m 57 56,gf 57 58 (.aU 4 4),gf 57 59 (.dA 4 none 58),gf 57 60 (.call 50 [59,(k 1),(k 20)]),gf 57 61 (.not 60),po 62 57 61] (.cond 62 (sq [mi 2 1] .ret) .skip)))))) (.aI [m 14 3,bk 15 .add 14 1,m 3 15])))))) (sq [mi 2 0] .ret))))
def Zrj:List Zf:=[(.aK 2)]
def Zxa:aJ Tryz.prog 126 1 Zkx Zrj:=bD [(4,4),(20,4),(34,4),(37,4),(42,4),(43,4),(45,4),(46,4),(52,4),(58,4)] Tryz.func126
def Zku:Ze:=(sq [o 2 (.aQ 2 [2] [z0,z0,z0,z0])] (sq [o 3 (.raw (.alloc 105) 0)] (sq [o 4 (.bU (.slice 105 3 none none none) 26),m 5 0,o 6 (.raw (.call (.mk (.builtin .copy) #[4,5] #[26,26])) 3)] (sq [lm 7 4 3,ls 2 4 2 7] .ret))))
def Zrg:List Zf:=[(.jH 2 2 (some 4))]
def Zw7:aJ Tryz.prog 131 1 Zku Zrg:=bD [(2,2)] Tryz.func131
def Zks:Ze:=(sq [o 2 (.raw (.box 102 0) 0),o 4 (.cY (.const s0))] (.seq (sq [m 6 1] (.block 0 (.rS 6 [7] (.aI [o 5 (.raw (.alloc 105) 0),st 105 5 7 0]) (.block 1 (.aI [ld 8 2,lm 9 4 5,o 10 (.aO 105 1 [z0,z0,z0,z0] [(0,(4,9))]),o 11 (.raw (.call (.mk (.builtin .append) #[8,10] #[102,102])) 102),st 102 2 11 0]))))) (sq [ld 12 2,m 4 12] .ret)))
def Zre:List Zf:=[(.aK 4)]
def Zw5:aJ Tryz.prog 136 2 Zks Zre:=bD [] Tryz.func136
def ZjD:Ze:=(sq [mi 2 0] (.seq (.cond k0 (sq [m 3 0,o 4 (.bU (.convert 176 182 3) 182),c1 5 180 4,m 2 5] .ret) .skip) (sq [m 6 0,c1 7 181 6,m 2 7] .ret)))
def Zqk:List Zf:=[(.aK 2)]
def Zwg:aJ Tryz.prog 141 1 ZjD Zqk:=bD [] Tryz.func141
def Zkg:Ze:=(sq [o 2 (.aP 2 [2,12,19] 0),mi 4 0] (sq [mi 5 0] (.seq (sq [m 7 1,le 8 7,mi 9 0] (.block 0 (.loop (sq [b 10 .lss 9 8] (.seq (.cond 10 .skip (.exit 0)) (.seq (.block 1 (sq [m 11 9,m 6 11] (.seq (.drawn [f 12 0 2,ln 13 2 12,m 14 1,m 15 6,ia 16 8 14 15,lm 17 8 16,f 19 0 2,ln 20 2 19,m 21 1,m 22 5,ia 23 8 21 22,lm 24 8 23,(o 18 (.raw (.call (.mk (.value 13) #[17] #[122])) 3),(some true)),(o 25 (.raw (.call (.mk (.value 20) #[24] #[122])) 3),none),b 26 .lss 18 25]) (.cond 26 (.aI [m 27 6,m 5 27]) .skip)))) (.aI [bk 28 .add 9 1,m 9 28]))))))) (sq [m 29 5,m 4 29] .ret))))
def Zq0:List Zf:=[(.aK 4)]
def ZwT:aJ Tryz.prog 156 2 Zkg Zq0:=bD [(2,2),(12,2),(19,2)] Tryz.func156
def Zkc:Ze:=(sq [m1 10] (sq [m1 11] (.block 0 (.loop (.block 1 (sq [m 21 2,m 22 1,b 23 .sub 21 22,m 12 23] (.seq (sq [m 24 12,bk 25 .leq 24 12] (.cond 25 (sq [m 26 0,m 27 1,m 28 2,m 29 4,o 30 (.call 207 [26,27,28,29])] .ret) .skip)) (.seq (sq [m 31 3,bk 32 .eql 31 0] (.cond 32 (sq [m 33 0,m 34 1,m 35 2,m 36 4,o 37 (.call 208 [33,34,35,36])] .ret) .skip)) (.seq (sq [m 38 10,o 39 (.not 38)] (.cond 39 (sq [m 40 0,m 41 1,m 42 2,m 43 4,o 44 (.call 209 [40,41,42,43])] (.aI [m 45 3,bk 46 .sub 45 1,m 3 46])) .skip)) (sq [m 48 0,m 49 1,m 50 2,m 51 4,o 52 (.call 210 [48,49,50,51]),m 47 52,x 53 47 0,x 54 47 1,m 13 53,m 14 54] (.seq (sq [m 55 14,bk 56 .eql 55 2] (.cond 56 (sq [m 57 0,m 58 1,m 59 2,m 60 4,o 61 (.call 211 [57,58,59,60])] (sq [m 62 2,bk 63 .sub 62 1,m 64 13,m 65 1,b 66 .sub 64 65,b 67 .sub 63 66,m 13 67] (.aI [mi 14 1]))) .skip)) (.seq (sq [m 68 10,m 69 68,mt 69 70 11,pa 71 69 70,m 72 71,mt 72 73 14,gt 72 74 (.aY .eql 73 (k 1)),pa 75 72 74] (.cond 75 (sq [m 76 0,m 77 1,m 78 2,m 79 4,o 80 (.call 212 [76,77,78,79])] (.cond 80 .ret .skip)) .skip)) (.seq (.seq (.drawn [m 81 1,bk 82 .gtr 81 0,m 83 82,mt 83 84 4,mt 83 85 0,mt 83 86 1,gt 83 87 (.aY .sub 86 (k 1)),gt 83 88 (.bQ 1 85 87),gt 83 89 (.ld none 88),mt 83 90 0,mt 83 91 13,gt 83 92 (.bQ 1 90 91),gt 83 93 (.ld none 92),(gt 83 94 (.raw (.call (.mk (.value 84) #[89,93] #[26,26])) 3),none),gt 83 95 (.aY .lss 94 (k 0)),gt 83 96 (.not 95),pa 97 83 96]) (.cond 97 (sq [m 98 0,m 99 1,m 100 2,m 101 13,m 102 4,o 103 (.call 213 [98,99,100,101,102]),m 15 103] (sq [m 104 15,m 1 104] (.exit 1))) .skip)) (sq [m 106 0,m 107 1,m 108 2,m 109 13,m 110 4,o 111 (.call 214 [106,107,108,109,110]),m 105 111,x 112 105 0,x 113 105 1,m 16 112,m 17 113] (sq [m 114 17,m 11 114] (sq [m 115 16,m 116 1,b 117 .sub 115 116,m 118 2,m 119 16,b 120 .sub 118 119,m 18 117,m 19 120] (sq [m 121 12,o 122 (.bU (.binOp .quo 3 121 (k 8) 3) 3),m 20 122] (sq [m 123 18,m 124 19,b 125 .lss 123 124] (.cond 125 (sq [m 126 18,m 127 20,b 128 .geq 126 127,m 10 128] (sq [m 129 0,m 130 1,m 131 16,m 132 3,m 133 4,o 134 (.call 161 [129,130,131,132,133])] (.aI [m 135 16,bk 136 .add 135 1,m 1 136]))) (sq [m 137 19,m 138 20,b 139 .geq 137 138,m 10 139] (sq [m 140 0,m 141 16,bk 142 .add 141 1,m 143 2,m 144 3,m 145 4,o 146 (.call 161 [140,142,143,144,145])] (.aI [m 147 16,m 2 147]))))))))))))))))))))))
def ZqW:List Zf:=[]
def ZwP:aJ Tryz.prog 161 5 Zkc ZqW:=bD [] Tryz.func161
def Zjv:Ze:=(sq [m0 4] (sq [m 5 0,m 6 1,c2 7 217 5 6,bk 8 .geq 7 0,m 4 8] .ret))
def Zqd:List Zf:=[(.aK 4)]
def Zv8:aJ Tryz.prog 166 2 Zjv Zqd:=bD [] Tryz.func166
def Zjt:Ze:=(sq [m 8 1,bk 9 .add 8 1,m 6 9] (.block 0 (.loop (.seq (sq [m 10 6,m 11 2,b 12 .lss 10 11] (.cond 12 .skip (.exit 0))) (.seq (.block 1 (sq [m 15 6,m 7 15] (.block 2 (.loop (.seq (.seq (.drawn [m 16 7,m 17 1,b 18 .gtr 16 17,m 19 18,mt 19 20 0,mt 19 21 7,gt 19 22 (.bQ 1 20 21),gt 19 23 (.ld none 22),mt 19 24 0,mt 19 25 7,gt 19 26 (.aY .sub 25 (k 1)),gt 19 27 (.bQ 1 24 26),gt 19 28 (.ld none 27),gt 19 29 (.call 177 [23,28]),pa 30 19 29]) (.cond 30 .skip (.exit 2))) (.seq (.block 3 (.drawn [m 33 0,m 34 7,m 35 0,m 36 7,bk 37 .sub 36 1,m 38 0,m 39 7,bk 40 .sub 39 1,ia 41 1 38 40,ld 42 41,m 43 0,m 44 7,ia 45 1 43 44,ld 46 45,ia 47 1 33 34,(st 3 47 42 0,(some false)),ia 48 1 35 37,st 3 48 46 0])) (.aI [m 31 7,bk 32 .sub 31 1,m 7 32]))))))) (.aI [m 13 6,bk 14 .add 13 1,m 6 14]))))))
def Zqb:List Zf:=[]
def Zv6:aJ Tryz.prog 171 3 Zjt Zqb:=bD [] Tryz.func171
def Zjo:Ze:=(sq [m0 6] (sq [m 11 1,bk 12 .add 11 1,m 7 12] (.seq (sq [mi 8 0] (.block 0 (.loop (.seq (sq [m 13 8,bk 14 .lss 13 5] (.cond 14 .skip (.exit 0))) (.seq (.block 1 (.seq (.block 2 (.loop (.seq (.seq (.drawn [m 17 7,m 18 2,b 19 .lss 17 18,m 20 19,mt 20 21 0,mt 20 22 7,gt 20 23 (.bQ 1 21 22),gt 20 24 (.ld none 23),mt 20 25 0,mt 20 26 7,gt 20 27 (.aY .sub 26 (k 1)),gt 20 28 (.bQ 1 25 27),gt 20 29 (.ld none 28),gt 20 30 (.call 177 [24,29]),gt 20 31 (.not 30),pa 32 20 31]) (.cond 32 .skip (.exit 2))) (.block 3 (.aI [m 33 7,bk 34 .add 33 1,m 7 34]))))) (.seq (sq [m 35 7,m 36 2,b 37 .eql 35 36] (.cond 37 (sq [m1 6] .ret) .skip)) (.seq (sq [m 38 2,m 39 1,b 40 .sub 38 39,bk 41 .lss 40 50] (.cond 41 (sq [m0 6] .ret) .skip)) (.seq (.drawn [m 42 0,m 43 7,m 44 0,m 45 7,bk 46 .sub 45 1,m 47 0,m 48 7,bk 49 .sub 48 1,ia 50 1 47 49,ld 51 50,m 52 0,m 53 7,ia 54 1 52 53,ld 55 54,ia 56 1 42 43,(st 3 56 51 0,(some false)),ia 57 1 44 46,st 3 57 55 0]) (.seq (sq [m 58 7,m 59 1,b 60 .sub 58 59,bk 61 .geq 60 2] (.cond 61 (sq [m 62 7,bk 63 .sub 62 1,m 9 63] (.block 4 (.loop (.seq (sq [m 64 9,bk 65 .geq 64 1] (.cond 65 .skip (.exit 4))) (.seq (.block 5 (.seq (.seq (.drawn [m 68 0,m 69 9,ia 70 1 68 69,ld 71 70,m 72 0,m 73 9,bk 74 .sub 73 1,ia 75 1 72 74,ld 76 75,c2 77 177 71 76,o 78 (.not 77)]) (.cond 78 (.exit 4) .skip)) (.drawn [m 79 0,m 80 9,m 81 0,m 82 9,bk 83 .sub 82 1,m 84 0,m 85 9,bk 86 .sub 85 1,ia 87 1 84 86,ld 88 87,m 89 0,m 90 9,ia 91 1 89 90,ld 92 91,ia 93 1 79 80,(st 3 93 88 0,(some false)),ia 94 1 81 83,st 3 94 92 0]))) (.aI [m 66 9,bk 67 .sub 66 1,m 9 67])))))) .skip)) (sq [m 95 2,m 96 7,b 97 .sub 95 96,bk 98 .geq 97 2] (.cond 98 (sq [m 99 7,bk 100 .add 99 1,m 10 100] (.block 6 (.loop (.seq (sq [m 101 10,m 102 2,b 103 .lss 101 102] (.cond 103 .skip (.exit 6))) (.seq (.block 7 (.seq (.seq (.drawn [m 106 0,m 107 10,ia 108 1 106 107,ld 109 108,m 110 0,m 111 10,bk 112 .sub 111 1,ia 113 1 110 112,ld 114 113,c2 115 177 109 114,o 116 (.not 115)]) (.cond 116 (.exit 6) .skip)) (.drawn [m 117 0,m 118 10,m 119 0,m 120 10,bk 121 .sub 120 1,m 122 0,m 123 10,bk 124 .sub 123 1,ia 125 1 122 124,ld 126 125,m 127 0,m 128 10,ia 129 1 127 128,ld 130 129,ia 131 1 117 118,(st 3 131 126 0,(some false)),ia 132 1 119 121,st 3 132 130 0]))) (.aI [m 104 10,bk 105 .add 104 1,m 10 105])))))) .skip)))))))) (.aI [m 15 8,bk 16 .add 15 1,m 8 16])))))) (sq [m0 6] .ret))))
def Zp6:List Zf:=[(.aK 6)]
def Zv1:aJ Tryz.prog 176 3 Zjo Zp6:=bD [] Tryz.func176
def Zjk:Ze:=(sq [mi 2 0] (.seq (sq [m 3 0,o 4 (.aY .geq 3 (.const (.int .u64 4294967296)))] (.cond 4 (sq [m 5 0,o 6 (.bU (.binOp .shr 189 5 (.const (.int .u64 32)) 176) 189),m 0 6] (.aI [mi 2 32])) .skip)) (.seq (sq [m 7 0,o 8 (.aY .geq 7 (.const (.int .u64 65536)))] (.cond 8 (sq [m 9 0,o 10 (.bU (.binOp .shr 189 9 (.const (.int .u64 16)) 176) 189),m 0 10] (.aI [m 11 2,bk 12 .add 11 16,m 2 12])) .skip)) (.seq (sq [m 13 0,o 14 (.aY .geq 13 (.const (.int .u64 256)))] (.cond 14 (sq [m 15 0,o 16 (.bU (.binOp .shr 189 15 (.const (.int .u64 8)) 176) 189),m 0 16] (.aI [m 17 2,bk 18 .add 17 8,m 2 18])) .skip)) (sq [m 19 2,m 20 0,o 21 (.bU (.convert 189 5 20) 5),o 22 (.raw (.index 9 (.const (.string (.mk #[0,1,2,2,3,3,3,3,4,4,4,4,4,4,4,4,5,5,5,5,5,5,5,5,5,5,5,5,5,5,5,5,6,6,6,6,6,6,6,6,6,6,6,6,6,6,6,6,6,6,6,6,6,6,6,6,6,6,6,6,6,6,6,6,7,7,7,7,7,7,7,7,7,7,7,7,7,7,7,7,7,7,7,7,7,7,7,7,7,7,7,7,7,7,7,7,7,7,7,7,7,7,7,7,7,7,7,7,7,7,7,7,7,7,7,7,7,7,7,7,7,7,7,7,7,7,7,7,8,8,8,8,8,8,8,8,8,8,8,8,8,8,8,8,8,8,8,8,8,8,8,8,8,8,8,8,8,8,8,8,8,8,8,8,8,8,8,8,8,8,8,8,8,8,8,8,8,8,8,8,8,8,8,8,8,8,8,8,8,8,8,8,8,8,8,8,8,8,8,8,8,8,8,8,8,8,8,8,8,8,8,8,8,8,8,8,8,8,8,8,8,8,8,8,8,8,8,8,8,8,8,8,8,8,8,8,8,8,8,8,8,8,8,8,8,8,8,8,8,8,8,8,8,8,8,8]))) 21) 5),o 23 (.bU (.convert 5 3 22) 3),b 24 .add 19 23,m 2 24] .ret)))))
def Zp2:List Zf:=[(.aK 2)]
def ZvX:aJ Tryz.prog 181 1 Zjk Zp2:=bD [] Tryz.func181
def Ky:Ze:=(sq [m1 10] (sq [m1 11] (.block 0 (.loop (.block 1 (sq [m 21 2,m 22 1,b 23 .sub 21 22,m 12 23] (.seq (sq [m 24 12,bk 25 .leq 24 12] (.cond 25 (sq [m 26 0,m 27 1,m 28 2,m 29 4,o 30 (.call 233 [26,27,28,29])] .ret) .skip)) (.seq (sq [m 31 3,bk 32 .eql 31 0] (.cond 32 (sq [m 33 0,m 34 1,m 35 2,m 36 4,o 37 (.call 234 [33,34,35,36])] .ret) .skip)) (.seq (sq [m 38 10,o 39 (.not 38)] (.cond 39 (sq [m 40 0,m 41 1,m 42 2,m 43 4,o 44 (.call 235 [40,41,42,43])] (.aI [m 45 3,bk 46 .sub 45 1,m 3 46])) .skip)) (sq [m 48 0,m 49 1,m 50 2,m 51 4,o 52 (.call 236 [48,49,50,51]),m 47 52,x 53 47 0,x 54 47 1,m 13 53,m 14 54] (.seq (sq [m 55 14,bk 56 .eql 55 2] (.cond 56 (sq [m 57 0,m 58 1,m 59 2,m 60 4,o 61 (.call 237 [57,58,59,60])] (sq [m 62 2,bk 63 .sub 62 1,m 64 13,m 65 1,b 66 .sub 64 65,b 67 .sub 63 66,m 13 67] (.aI [mi 14 1]))) .skip)) (.seq (sq [m 68 10,m 69 68,mt 69 70 11,pa 71 69 70,m 72 71,mt 72 73 14,gt 72 74 (.aY .eql 73 (k 1)),pa 75 72 74] (.cond 75 (sq [m 76 0,m 77 1,m 78 2,m 79 4,o 80 (.call 238 [76,77,78,79])] (.cond 80 .ret .skip)) .skip)) (.seq (.seq (.drawn [m 81 1,bk 82 .gtr 81 0,m 83 82,mt 83 84 4,mt 83 85 0,mt 83 86 1,gt 83 87 (.aY .sub 86 (k 1)),gt 83 88 (.bQ 8 85 87),gt 83 89 (.ld (some 8) 88),mt 83 90 0,mt 83 91 13,gt 83 92 (.bQ 8 90 91),gt 83 93 (.ld (some 8) 92),(gt 83 94 (.raw (.call (.mk (.value 84) #[89,93] #[122,122])) 3),none),gt 83 95 (.aY .lss 94 (k 0)),gt 83 96 (.not 95),pa 97 83 96]) (.cond 97 (sq [m 98 0,m 99 1,m 100 2,m 101 13,m 102 4,o 103 (.call 239 [98,99,100,101,102]),m 15 103] (sq [m 104 15,m 1 104] (.exit 1))) .skip)) (sq [m 106 0,m 107 1,m 108 2,m 109 13,m 110 4,o 111 (.call 240 [106,107,108,109,110]),m 105 111,x 112 105 0,x 113 105 1,m 16 112,m 17 113] (sq [m 114 17,m 11 114] (sq [m 115 16,m 116 1,b 117 .sub 115 116,m 118 2,m 119 16,b 120 .sub 118 119,m 18 117,m 19 120] (sq [m 121 12,o 122 (.bU (.binOp .quo 3 121 (k 8) 3) 3),m 20 122] (sq [m 123 18,m 124 19,b 125 .lss 123 124] (.cond 125 (sq [m 126 18,m 127 20,b 128 .geq 126 127,m 10 128] (sq [m 129 0,m 130 1,m 131 16,m 132 3,m 133 4,o 134 (.call 205 [129,130,131,132,133])] (.aI [m 135 16,bk 136 .add 135 1,m 1 136]))) (sq [m 137 19,m 138 20,b 139 .geq 137 138,m 10 139] (sq [m 140 0,m 141 16,bk 142 .add 141 1,m 143 2,m 144 3,m 145 4,o 146 (.call 205 [140,142,143,144,145])] (.aI [m 147 16,m 2 147]))))))))))))))))))))))
def ZqM:List Zf:=[]
def Zm0:aJ Tryz.prog 205 5 Ky ZqM:=bD [] Tryz.func205
def Zja:Ze:=(sq [m0 2] (sq [m 3 0,m 4 0,b 5 .neq 3 4,m 2 5] .ret))
def ZpT:List Zf:=[(.aK 2)]
def ZvN:aJ Tryz.prog 215 1 Zja ZpT:=bD [] Tryz.func215
def Zje:Ze:=(sq [o 2 (.cY (.const (.int .u64 0)))] (sq [m 3 0,o 4 (.bU (.convert 3 176 3) 176),c1 5 141 4,o 6 (.bU (.binOp .shl 176 (.const (.int .u64 1)) 5 3) 176),m 2 6] .ret))
def ZpX:List Zf:=[(.aK 2)]
def ZvR:aJ Tryz.prog 220 1 Zje ZpX:=bD [] Tryz.func220
def ZjZ:Ze:=(sq [m 13 1,m 8 13] (sq [mi 9 0] (sq [m 14 2,m 15 1,b 16 .sub 14 15,m 10 16] (.seq (sq [m 17 10,bk 18 .sub 17 1,o 19 (.bU (.binOp .quo 3 18 (k 2) 3) 3),m 11 19] (.block 0 (.loop (.seq (sq [m 20 11,bk 21 .geq 20 0] (.cond 21 .skip (.exit 0))) (.seq (.block 1 (.aI [m 24 0,m 25 11,m 26 10,m 27 8,m 28 3,o 29 (.call 254 [24,25,26,27,28])])) (.aI [m 22 11,bk 23 .sub 22 1,m 11 23])))))) (sq [m 30 10,bk 31 .sub 30 1,m 12 31] (.block 2 (.loop (.seq (sq [m 32 12,bk 33 .geq 32 0] (.cond 33 .skip (.exit 2))) (.seq (.block 3 (.seq (.drawn [m 36 0,m 37 8,m 38 0,m 39 8,m 40 12,b 41 .add 39 40,m 42 0,m 43 8,m 44 12,b 45 .add 43 44,ia 46 8 42 45,lm 47 8 46,m 48 0,m 49 8,ia 50 8 48 49,lm 51 8 50,ia 52 8 36 37,(st 122 52 47 0,(some false)),ia 53 8 38 41,st 122 53 51 0]) (.aI [m 54 0,m 55 9,m 56 12,m 57 8,m 58 3,o 59 (.call 254 [54,55,56,57,58])]))) (.aI [m 34 12,bk 35 .sub 34 1,m 12 35]))))))))))
def ZqG:List Zf:=[]
def ZwC:aJ Tryz.prog 234 4 ZjZ ZqG:=bD [] Tryz.func234
def ZjU:Ze:=(sq [mi 10 0] (.seq (.drawn [m 13 0,m 14 1,m 15 0,m 16 3,m 17 0,m 18 3,ia 19 8 17 18,lm 20 8 19,m 21 0,m 22 1,ia 23 8 21 22,lm 24 8 23,ia 25 8 13 14,(st 122 25 20 0,(some false)),ia 26 8 15 16,st 122 26 24 0]) (sq [m 27 1,bk 28 .add 27 1,m 29 2,bk 30 .sub 29 1,m 11 28,m 12 30] (.seq (.block 0 (.loop (.block 1 (.seq (.block 2 (.loop (.seq (.seq (.drawn [m 31 11,m 32 12,b 33 .leq 31 32,m 34 33,mt 34 35 4,mt 34 36 0,mt 34 37 1,gt 34 38 (.bQ 8 36 37),gt 34 39 (.ld (some 8) 38),mt 34 40 0,mt 34 41 11,gt 34 42 (.bQ 8 40 41),gt 34 43 (.ld (some 8) 42),(gt 34 44 (.raw (.call (.mk (.value 35) #[39,43] #[122,122])) 3),none),gt 34 45 (.aY .lss 44 (k 0)),gt 34 46 (.not 45),pa 47 34 46]) (.cond 47 .skip (.exit 2))) (.block 3 (.aI [m 48 11,bk 49 .add 48 1,m 11 49]))))) (.seq (.block 4 (.loop (.seq (.seq (.drawn [m 50 11,m 51 12,b 52 .leq 50 51,m 53 52,mt 53 54 4,mt 53 55 0,mt 53 56 1,gt 53 57 (.bQ 8 55 56),gt 53 58 (.ld (some 8) 57),mt 53 59 0,mt 53 60 12,gt 53 61 (.bQ 8 59 60),gt 53 62 (.ld (some 8) 61),(gt 53 63 (.raw (.call (.mk (.value 54) #[58,62] #[122,122])) 3),none),gt 53 64 (.aY .lss 63 (k 0)),pa 65 53 64]) (.cond 65 .skip (.exit 4))) (.block 5 (.aI [m 66 12,bk 67 .sub 66 1,m 12 67]))))) (.seq (sq [m 68 11,m 69 12,b 70 .gtr 68 69] (.cond 70 (.exit 0) .skip)) (.seq (.drawn [m 71 0,m 72 11,m 73 0,m 74 12,m 75 0,m 76 12,ia 77 8 75 76,lm 78 8 77,m 79 0,m 80 11,ia 81 8 79 80,lm 82 8 81,ia 83 8 71 72,(st 122 83 78 0,(some false)),ia 84 8 73 74,st 122 84 82 0]) (sq [m 85 11,bk 86 .add 85 1,m 11 86] (.aI [m 87 12,bk 88 .sub 87 1,m 12 88]))))))))) (sq [m 89 11,m 10 89] .ret)))))
def ZqB:List Zf:=[(.aK 10)]
def Zwx:aJ Tryz.prog 239 5 ZjU ZqB:=bD [] Tryz.func239
def ZjP:Ze:=(sq [mi 12 0] (sq [m 14 0,m 15 1,m 16 2,m 17 4,m 18 5,o 19 (.call 259 [14,15,16,17,18]),m 13 19,x 20 13 0,x 21 13 1,m 1 20,m 2 21] (sq [m 23 0,m 24 2,m 25 3,m 26 4,m 27 5,o 28 (.call 259 [23,24,25,26,27]),m 22 28,x 29 22 0,x 30 22 1,m 2 29,m 3 30] (sq [m 32 0,m 33 1,m 34 2,m 35 4,m 36 5,o 37 (.call 259 [32,33,34,35,36]),m 31 37,x 38 31 0,x 39 31 1,m 1 38,m 2 39] (sq [m 40 2,m 12 40] .ret)))))
def Zqw:List Zf:=[(.aK 12)]
def Zws:aJ Tryz.prog 256 6 ZjP Zqw:=bD [] Tryz.func256
def ZjN:Ze:=(sq [o 1 (.aP 1 [1,3,4,9,10,16,17] 0),mi 2 0] (.seq (sq [f 3 0 1,f 4 0 3,ln 5 1 4,o 6 (.call 168 [5,(k 1),(k 3)]),o 7 (.not 6),m 8 7,gf 8 9 (.aU 0 1),gf 8 10 (.aU 1 9),gf 8 11 (.dA 1 none 10),gf 8 12 (.call 168 [11,(k 1),(k 3)]),gf 8 13 (.not 12),po 14 8 13,m 15 14,gf 15 16 (.aU 0 1),gf 15 17 (.aU 2 16),gf 15 18 (.dA 1 none 17),gf 15 19 (.call 168 [18,(k 0),(k 200)]),gf 15 20 (.not 19),po 21 15 20] (.cond 21 (sq [mi 2 1] .ret) .skip)) (sq [mi 2 0] .ret)))
def Zqu:List Zf:=[(.aK 2)]
def Zwq:aJ Tryz.prog 277 1 ZjN Zqu:=bD [(1,1),(3,1),(4,1),(9,1),(10,1),(16,1),(17,1)] Tryz.func277
def ZjI:Ze:=(sq [o 2 (.aP 2 [2,4] 0),m0 3] (sq [f 4 0 2,ln 5 2 4,o 6 (.aN 0 1),ld 7 6,o 8 (.bU (.binOp .eql 9 5 7 9) 4),m 3 8] .ret))
def Zqp:List Zf:=[(.aK 3)]
def Zwl:aJ Tryz.prog 282 2 ZjI Zqp:=bD [(2,2),(4,2)] Tryz.func282
end
variable{α:Type}{j r:Nat}{H0 H':Hp}{E:TypeId}{v:Value}{b b2 b':Option Nat}
section
variable{P:aX}[Tz P]{H:Hp}
def pF(n c a:Int):LL.Zc P 50 #[vi n,vi c,vi a] H λv f=>H=f/\v=vb (decide (c<=n/\n<=a)):=by refine aJ.m (bG c53) (args:=[vi n,vi c,vi a]) rfl ?_;unfold Pm;refine OJ (λe=>?_) (λe=>?_)<;>refine Y ?_<;>exact⟨rfl,by simp[Y5,e]⟩
end
def yT{l:List α}(a:j<l.length):l.drop j=l[j] :: l.drop (j+1):=qCc a
structure N4 where
 (a b c d:Int)
def N4.get(n:N4):Nat->Int
 | 0=>n.a
 | 1=>n.b
 | 2=>n.c
 | _=>n.d
def N4.of(f:Nat->Int):N4:=⟨f 0,f 1,f 2,f 3⟩
theorem N4.AV(f:Nat->Int)(a:j<4):(N4.of f).get j=f j:=by
 match j,a with
 | 0,_=>rfl
 | 1,_=>rfl
 | 2,_=>rfl
 | 3,_=>rfl
theorem N4.ext'{m n:N4}(h:∀j,j<4->m.get j=n.get j):m=n:=by
 cases m;cases n
 have a:=h 0 O;have c:=h 1 O;have e:=h 2 O;have f:=h 3 O;simp only[N4.get]at a c e f;subst a c e f;rfl
def N4.cells(n:N4):List Value:=[vi n.a,vi n.b,vi n.c,vi n.d]
def Zu(n:N4):Value:=.agg #[vi n.a,vi n.b,vi n.c,vi n.d]
theorem ZvA(n:N4)(a:j<4):n.cells[0+j * 1]? = some (vi (n.get j)):=by
 match j,a with
 | 0,_=>rfl
 | 1,_=>rfl
 | 2,_=>rfl
 | 3,_=>rfl
def N4.put(n:N4)(j:Nat)(v:Int):N4:=N4.of λi=>if i=j then v else n.get i
theorem T4(n:N4)(v:Int)(a:j<4):ZG n.cells (0+j * 1) [vi v]=(n.put j v).cells:=by
 match j,a with
 | 0,_=>rfl
 | 1,_=>rfl
 | 2,_=>rfl
 | 3,_=>rfl
def N4.aZ(n:N4){i:Nat}(v:Int)(a:i<4):(n.put j v).get i=if i=j then v else n.get i:=N4.AV _ a
theorem N4.rX(n:N4)(v w:Int):(n.put j v).put j w=n.put j w:=by refine N4.ext' λi a=>?_;rw[N4.aZ _ _ a,N4.aZ _ _ a,N4.aZ _ _ a];split<;>rfl
def IK[Enc α](l a:List α):Zb (l++a)=Zb l++Zb a:=by simp[Zb]
structure dD{α:Type}[Enc α](H0 H:Hp)(E:TypeId)(v:Value)(l:List α)(b:Option Nat):Prop where
 own:jN H E (Enc.sz α) v (Zb l) l.length b
 fresh:∀r,b=some r->H0 r=none
def dD.nil[Enc α](H0 H:Hp)(E:TypeId):dD H0 H E (.slice none 0 0) ([]:List α) none:=⟨.nil H E _,λr h=>by simp at h⟩
def dD.sl[Enc α]{H:Hp}{l:List α}(h:dD H0 H E v l b):aF H v l:=by obtain⟨A,c,a,e⟩:=h.own.cells;exact⟨A,c,a,λf=>e (by simpa using f)⟩
def dD.ins[Enc α]{H:Hp}{l:List α}(h:dD H0 H E v l b){o:Obj}(e:H r=none):dD H0 (H.ins r o) E v l b:=
 ⟨h.own.sub λc y _ a=>(Yf e).mem c y a,h.fresh⟩
def jE(b b2:Option Nat):Prop:=∀r,b=some r->b2≠some r
def jE.none(b:Option Nat):jE none b:=λr h=>by simp at h
def jE.symm(h:jE b b2):jE b2 b:=λr a c=>h r c a
def Xu{H:Hp}(f:H0.Sub H)(g:∀r,b=some r->H0 r=none)(c:C7 H H' b b'):H0.Sub H':=
 ⟨λd y a=>c.keep d y (f.mem d y a) (λe=>by rw[g d e]at a;simp at a),c.gh.trans f.gh⟩
def dD.hU{β:Type}[Enc α][Enc β]{H:Hp}{h:TypeId}{n:Value}{l:List α}{m:List β}(_h:dD H0 H E v l b)(g:dD H0 H h n m b2)(k:jE b b2)(c:C7 H H' b b'):dD H0 H' h n m b2/\jE b' b2:=by
 have o:∀d y,b2=some d->H d=some y->H' d=some y:=λd y e hd=>c.keep d y hd (λa=>k d a e);refine⟨⟨g.own.sub o,g.fresh⟩,?_⟩;rcases c.new with rfl | ⟨r,rfl,p⟩
 ·exact k
 intro q e a;obtain rfl:=iO e;obtain⟨_,⟨_,_,f⟩ | ⟨s,_,_,f,_,i,_⟩⟩:=g.own
 ·rw[f]at a;simp at a
 rw[f]at a;obtain rfl:=iO a;rw[p]at i;simp at i
def dD.BW[Enc α]{H:Hp}{l:List α}(f:H0.Sub H)(h:dD H0 H E v l b)(c:C7 H H' b b'):∀r,b'=some r->H0 r=none:=by
 rcases c.new with rfl | ⟨r,rfl,a⟩
 ·exact h.fresh
 intro g e;obtain rfl:=iO e;cases hh:H0 r with
 | none=>rfl
 | some y=>rw[f.mem r y hh]at a;simp at a
def Z0[Enc α]{H:Hp}{l:List α}{c:Nat}:aF (H.ins r (.cells (Zb l).toArray E)) (.slice (some ⟨r,0,none⟩) l.length c) l:=
 ⟨_,_,rfl,λ_=>⟨_,rfl,rfl,_,_,Hp.aG _ _ _,λj a=>by simp[Obj.mB]⟩⟩
section
variable{P:aX}[Tz P]{H:Hp}{d:Option Nat}{next:aM->Hp->Prop}{σ:aM}{x y:Operand}
def WZ[Enc α]{I q T:TypeId}{i:Nat}{K s w:Value}{l l':List α}(F:P.toProgram.underlying I=some (.slice E))(p:P.toProgram.underlying q=some (.slice E))(J:TI P.toProgram E (Enc.sz α) K i)(G:K.cells.size=Enc.sz α)(C:0<Enc.sz α)
  (t:H0.Sub H) (f:dD H0 H E s l b) (O:aF H w l') (L:((Zb l').all Value.cJ)=true) (k:l.length+l'.length<=1000000000) (n:i<=1000) (z:σ.get x=some s) (B:σ.get y=some w) (o:P.still H.gh=false)
  (h:∀g H' b',H0.Sub H'->dD H0 H' E g (l++l') b'->C7 H H' b b'->next (σ.set d g) H'):(bE.raw (.call { callee:=.builtin .append,args:=#[x,y],argTypes:=#[I,q] }) T).m P d next σ H:=by
 obtain⟨A,c,rfl,M⟩:=O;by_cases D:l'=[]
 ·subst D;refine QQ F p J G C z B f.own (m:=0) (xs:=[]) (.inl ⟨rfl,A,c,rfl⟩) (by simp) rfl k n o λg H' b' u e=>?_;exact h g H' b' (Xu t f.fresh e) ⟨by simpa using u,f.BW t e⟩ e
 obtain⟨a,rfl,N⟩:=M D;refine QQ F p J G C z B f.own (m:=l'.length) (xs:=Zb l') (.inr ⟨a,c,rfl,N⟩) (VH l') L k n o λg H' b' u e=>?_;refine h g H' b' (Xu t f.fresh e) ⟨?_,f.BW t e⟩ e;rw[IK,BY];exact u
end
