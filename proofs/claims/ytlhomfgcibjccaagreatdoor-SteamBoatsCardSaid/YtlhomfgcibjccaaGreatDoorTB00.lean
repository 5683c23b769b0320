import Derived.Test.YtlhomfgcibjccaaGreatDoorP39
set_option linter.all false
set_option maxHeartbeats 4000000
set_option maxRecDepth 20000
section
namespace Go.LL
section
variable{P:aX}{d:Option Nat}{r:List NI}{op:bE}{Q:aM->Hp->Prop}{next:aM->Hp->Prop}{σ:aM}{H:Hp}{x y z:Operand}{v:Value}
variable{l:List (NI×Option Bool)}
def yO{f:Option Bool}{t:Nat}{b:Bool}(g:P.still H.gh=false)(e:σ.env t=some undef)(h:ZT P l Q (σ.fB d) H):ZT P ((⟨some (t,b),d,op⟩,f) :: l) Q σ H:=by cases b<;>(simp only[ZT,e,undef];exact⟨g,h⟩)
variable{Qe:Ex->aM->Hp->Prop}{a b c:Ze}
end
end Go.LL
end
open Go Go.LL
namespace Go.Proofs
section
open Go.Z
def nI:Ze:=(sq [o 2 (.aP 2 [2] 0),o 4 (.cY (.const s0)),mi 5 0] (.seq (sq [l 11 2 5 2,c1 12 67 11,m 6 12] (sq [m 13 6,bk 14 .neq 13 0] (.cond 14 (sq [m 15 6,o 4 (.cY (.const s0)),m 5 15] .ret) .skip))) (.seq (sq [l 16 2 5 2,m 17 1,c2 18 89 16 17,o 19 (.not 18)] (.cond 19 (sq [o 4 (.cY (.const s0)),mi 5 6] .ret) .skip)) (sq [l 21 2 5 2,o 22 (.call 90 [21,(k 0)]),m 20 22,x 23 20 0,x 24 20 1,m 7 23,m 8 24] (sq [o 9 (.cY (.const s0))] (.seq (sq [mi 10 0] (.block 0 (.loop (.seq (sq [m 25 10,m 26 7,le 27 26,b 28 .lss 25 27] (.cond 28 .skip (.exit 0))) (.seq (.block 1 (.aI [m 31 9,m 32 7,m 33 10,ia 34 1 32 33,ld 35 34,m 36 1,ia 37 1 35 36,ld 38 37,o 39 (.aO 3 1 [z0] [(0,(1,38))]),o 40 (.raw (.call (.mk (.builtin .append) #[31,39] #[26,26])) 26),m 9 40])) (.aI [m 29 10,bk 30 .add 29 1,m 10 30])))))) (sq [m 41 9,c1 42 91 41,m 43 8,m 4 42,m 5 43] .ret)))))))
def yW:List Zf:=[(.aK 4),(.aK 5)]
def JQ:aJ Tryz.prog 22 2 nI yW:=bD [(2,2)] Tryz.func22
def nW:Ze:=(sq [o 3 (.aP 3 [3] 0),mi 6 0,mi 7 0] (.seq (sq [l 14 3 5 3,c1 15 67 14,m 8 15] (sq [m 16 8,bk 17 .neq 16 0] (.cond 17 (sq [m 18 8,mi 6 0,m 7 18] .ret) .skip))) (sq [l 19 3 5 3,m 20 1,c2 21 79 19 20,m 9 21] (.seq (sq [m 22 9,bk 23 .eql 22 0,m 24 23,gt 24 25 (.dA 3 (some 5) 3),mt 24 26 2,gt 24 27 (.call 89 [25,26]),gt 24 28 (.not 27),pa 29 24 28] (.cond 29 (.aI [mi 9 6]) .skip)) (sq [l 31 3 5 3,m 32 9,c2 33 90 31 32,m 30 33,x 34 30 0,x 35 30 1,m 10 34,m 11 35] (.seq (sq [m 36 11,bk 37 .neq 36 0] (.cond 37 (sq [m 38 11,mi 6 0,m 7 38] .ret) .skip)) (sq [mi 12 0] (.seq (sq [mi 13 0] (.block 0 (.loop (.seq (sq [m 39 13,m 40 10,le 41 40,b 42 .lss 39 41] (.cond 42 .skip (.exit 0))) (.seq (.block 1 (.seq (.drawn [l 45 3 5 3,m 46 10,m 47 13,ia 48 1 46 47,ld 49 48,m 50 1,m 52 2,(c3 51 98 45 49 50,(some false)),c2 53 40 51 52]) (.cond 53 (.aI [m 54 12,bk 55 .add 54 1,m 12 55]) .skip))) (.aI [m 43 13,bk 44 .add 43 1,m 13 44])))))) (sq [m 56 12,m 57 10,le 58 57,c2 59 99 56 58,m 6 59,mi 7 0] .ret)))))))))
def yY:List Zf:=[(.aK 6),(.aK 7)]
def JS:aJ Tryz.prog 27 3 nW yY:=bD [(3,3)] Tryz.func27
def mS:Ze:=(sq [o 3 (.aP 3 [3,30] 0),o 6 (.cY (.const s0))] (sq [l 10 3 5 3,m 11 1,m 12 2,c3 13 128 10 11 12,m 7 13] (sq [o 8 (.cY (.const s0))] (.seq (sq [mi 9 0] (.block 0 (.loop (.seq (sq [m 14 9,m 15 7,le 16 15,b 17 .lss 14 16] (.cond 17 .skip (.exit 0))) (.seq (.block 1 (.seq (.drawn [m 20 7,m 21 9,ia 22 4 20 21,o 23 (.aN 3 22),ld 24 23,m 25 7,m 26 9,ia 27 4 25 26,o 28 (.aN 1 27),ld 29 28,f 30 3 3,ln 31 3 30,m 32 9,ia 33 5 31 32,o 34 (.aN 4 33),ld 35 34,b 36 .add 29 35,b 37 .gtr 24 36]) (.cond 37 (.aI [m 38 8,m 39 9,o 40 (.aO 3 1 [z0] [(0,(1,39))]),o 41 (.raw (.call (.mk (.builtin .append) #[38,40] #[26,26])) 26),m 8 41]) .skip))) (.aI [m 18 9,bk 19 .add 18 1,m 9 19])))))) (sq [m 42 8,m 6 42] .ret)))))
def y8:List Zf:=[(.aK 6)]
def I5:aJ Tryz.prog 98 3 mS y8:=bD [(3,3),(30,3)] Tryz.func98
def mU:Ze:=(sq [o 3 (.aP 3 [3,21,69,140] 0),o 6 (.cY (.const s0))] (sq [m 18 2,le 19 18,o 20 (.raw (.makeSlice 61 19 19) 61),m 7 20] (sq [f 21 0 3,ln 22 3 21,o 23 (.raw (.makeSlice 26 22 22) 26),m 8 23] (.seq (sq [mi 9 0] (.block 0 (.loop (.seq (sq [m 24 9,m 25 2,le 26 25,b 27 .lss 24 26] (.cond 27 .skip (.exit 0))) (.seq (.block 1 (sq [m 30 8,c1 31 165 30,m 10 31] (.seq (.drawn [m 32 7,m 33 2,m 34 9,ia 35 1 33 34,ld 36 35,m 37 8,m 38 10,ia 39 1 37 38,ld 40 39,ia 41 4 32 36,o 42 (.aN 0 41),st 3 42 40 0]) (.seq (.drawn [m 43 8,m 44 10,m 45 8,m 46 10,ia 47 1 45 46,ld 48 47,m 49 1,m 50 2,m 51 9,ia 52 1 50 51,ld 53 52,ia 54 1 49 53,ld 55 54,b 56 .add 48 55,ia 57 1 43 44,st 3 57 56 0]) (.drawn [m 58 7,m 59 2,m 60 9,ia 61 1 59 60,ld 62 61,m 63 8,m 64 10,ia 65 1 63 64,ld 66 65,ia 67 4 58 62,o 68 (.aN 1 67),st 3 68 66 0]))))) (.aI [m 28 9,bk 29 .add 28 1,m 9 29])))))) (sq [f 69 1 3,ln 70 3 69,o 71 (.raw (.makeSlice 26 70 70) 26),m 11 71] (sq [m 72 2,le 73 72,o 74 (.raw (.makeSlice 208 73 73) 208),m 12 74] (.seq (sq [mi 13 0] (.block 2 (.loop (.seq (sq [m 75 13,m 76 2,le 77 76,b 78 .lss 75 77] (.cond 78 .skip (.exit 2))) (.seq (.block 3 (sq [o 14 (.cY (.const (.int .i64 (Int.negSucc 0))))] (.seq (sq [mi 15 0] (.block 4 (.loop (.seq (sq [m 81 15,m 82 2,le 83 82,b 84 .lss 81 83] (.cond 84 .skip (.exit 4))) (.seq (.block 5 (sq [m 87 2,m 88 15,ia 89 1 87 88,ld 90 89,m 16 90] (.seq (.drawn [m 91 12,m 92 16,ia 93 1 91 92,ld 94 93,o 95 (.not 94),m 96 95,mt 96 97 14,gt 96 98 (.aY .lss 97 (k 0)),mt 96 99 98,mf 99 100 7,mf 99 101 16,gf 99 102 (.bQ 4 100 101),gf 99 103 (.aN 1 102),gf 99 104 (.ld none 103),mf 99 105 7,mf 99 106 14,gf 99 107 (.bQ 4 105 106),gf 99 108 (.aN 1 107),gf 99 109 (.ld none 108),gf 99 110 (.aY .lss 104 109),gt 96 111 (.pick 99 k1 110),pa 112 96 111]) (.cond 112 (.aI [m 113 16,m 14 113]) .skip)))) (.aI [m 85 15,bk 86 .add 85 1,m 15 86])))))) (sq [m 114 11,c1 115 165 114,m 17 115] (sq [m 116 12,m 117 14,ia 118 1 116 117,u (.raw (.store 4 118 k1) 0)] (.seq (.drawn [m 119 7,m 120 14,m 121 7,m 122 14,ia 123 4 121 122,o 124 (.aN 1 123),ld 125 124,m 126 11,m 127 17,ia 128 1 126 127,ld 129 128,(o 130 (.bU (.call (.mk (.builtin .max) #[125,129] #[3,3])) 3),none),ia 131 4 119 120,o 132 (.aN 2 131),st 3 132 130 0]) (.seq (.drawn [m 133 7,m 134 14,m 135 7,m 136 14,ia 137 4 135 136,o 138 (.aN 2 137),ld 139 138,f 140 3 3,ln 141 3 140,m 142 14,ia 143 5 141 142,o 144 (.aN 3 143),ld 145 144,b 146 .add 139 145,ia 147 4 133 134,o 148 (.aN 3 147),st 3 148 146 0]) (.aI [m 149 11,m 150 17,m 151 7,m 152 14,ia 153 4 151 152,o 154 (.aN 3 153),ld 155 154,ia 156 1 149 150,st 3 156 155 0])))))))) (.aI [m 79 13,bk 80 .add 79 1,m 13 80])))))) (sq [m 157 7,m 6 157] .ret))))))))
def vX:List Zf:=[(.aK 6)]
def I7:aJ Tryz.prog 128 3 mU vX:=bD [(3,3),(21,3),(69,3),(140,3)] Tryz.func128
def nK:Ze:=(sq [o 2 (.aP 2 [2] 0),mi 4 0,mi 5 0] (.seq (sq [l 9 2 5 2,c1 10 67 9,m 6 10] (sq [m 11 6,bk 12 .neq 11 0] (.cond 12 (sq [m 13 6,mi 4 0,m 5 13] .ret) .skip))) (.seq (.drawn [l 15 2 5 2,l 16 2 5 2,m 17 1,(c2 18 79 16 17,(some false)),c2 19 90 15 18,m 14 19,x 20 14 0,x 21 14 1,m 7 20,m 8 21]) (.seq (sq [m 22 8,bk 23 .neq 22 0] (.cond 23 (sq [m 24 8,mi 4 0,m 5 24] .ret) .skip)) (sq [l 25 2 5 2,m 26 7,m 27 1,c3 28 100 25 26 27,m 4 28,mi 5 0] .ret)))))
def yZ:List Zf:=[(.aK 4),(.aK 5)]
def JU:aJ Tryz.prog 29 2 nK yZ:=bD [(2,2)] Tryz.func29
def nL:Ze:=(sq [o 2 (.aP 2 [2,8] 0),mi 4 0] (.seq (sq [m 6 1,le 7 6,f 8 3 2,ln 9 2 8,le 10 9,b 11 .neq 7 10] (.cond 11 (sq [mi 4 2] .ret) .skip)) (.seq (sq [mi 5 0] (.block 0 (.loop (.seq (sq [m 12 5,m 13 1,le 14 13,b 15 .lss 12 14] (.cond 15 .skip (.exit 0))) (.seq (.block 1 (.seq (.seq (.drawn [l 18 2 5 2,m 19 1,m 20 5,ia 21 1 19 20,ld 22 21,c2 23 89 18 22,o 24 (.not 23)]) (.cond 24 (sq [mi 4 6] .ret) .skip)) (.seq (.drawn [m 25 1,m 26 5,o 27 (.bU (.slice 26 25 none (some 26) none) 26),m 28 1,m 29 5,ia 30 1 28 29,ld 31 30,c2 32 40 27 31]) (.cond 32 (sq [mi 4 5] .ret) .skip)))) (.aI [m 16 5,bk 17 .add 16 1,m 5 17])))))) (sq [mi 4 0] .ret))))
def y0:List Zf:=[(.aK 4)]
def JV:aJ Tryz.prog 79 2 nL y0:=bD [(2,2),(8,2)] Tryz.func79
def nM:Ze:=(sq [o 1 (.aP 1 [1,12,24,32] 0),o 2 (.cY (.const s0))] (sq [o 10 (.aO 26 1 [s0] [(0,(1,(.const s0)))]),m 3 10] (.seq (sq [mi 4 0] (.block 0 (.loop (.seq (sq [m 11 4,f 12 3 1,ln 13 1 12,le 14 13,b 15 .lss 11 14] (.cond 15 .skip (.exit 0))) (.seq (.block 1 (sq [o 5 (.cY (.const s0))] (.seq (sq [mi 6 0] (.block 2 (.loop (.seq (sq [m 18 6,m 19 3,le 20 19,b 21 .lss 18 20] (.cond 21 .skip (.exit 2))) (.seq (.block 3 (sq [f 24 3 1,ln 25 1 24,m 26 4,ia 27 5 25 26,o 28 (.aN 1 27),o 29 (.aN 0 28),ld 30 29,m 7 30] (.block 4 (.loop (.seq (sq [m 31 7,f 32 3 1,ln 33 1 32,m 34 4,ia 35 5 33 34,o 36 (.aN 1 35),o 37 (.aN 1 36),ld 38 37,b 39 .leq 31 38] (.cond 39 .skip (.exit 4))) (.seq (.block 5 (.aI [m 42 5,o 43 (.raw (.buildSlice 26 0 #[]) 26),m 44 3,m 45 6,ia 46 1 44 45,ld 47 46,o 48 (.raw (.call (.mk (.builtin .append) #[43,47] #[26,26])) 26),m 49 7,o 50 (.aO 3 1 [z0] [(0,(1,49))]),o 51 (.raw (.call (.mk (.builtin .append) #[48,50] #[26,26])) 26),o 52 (.aO 26 1 [s0] [(0,(1,51))]),o 53 (.raw (.call (.mk (.builtin .append) #[42,52] #[68,68])) 68),m 5 53])) (.aI [m 40 7,bk 41 .add 40 1,m 7 41]))))))) (.aI [m 22 6,bk 23 .add 22 1,m 6 23])))))) (.aI [m 54 5,m 3 54])))) (.aI [m 16 4,bk 17 .add 16 1,m 4 17])))))) (sq [o 8 (.cY (.const s0))] (.seq (sq [mi 9 0] (.block 6 (.loop (.seq (sq [m 55 9,m 56 3,le 57 56,b 58 .lss 55 57] (.cond 58 .skip (.exit 6))) (.seq (.block 7 (.seq (.drawn [l 61 1 5 1,m 62 3,m 63 9,ia 64 1 62 63,ld 65 64,c2 66 134 61 65]) (.cond 66 (.aI [m 67 8,m 68 3,m 69 9,ia 70 1 68 69,ld 71 70,o 72 (.aO 26 1 [s0] [(0,(1,71))]),o 73 (.raw (.call (.mk (.builtin .append) #[67,72] #[68,68])) 68),m 8 73]) .skip))) (.aI [m 59 9,bk 60 .add 59 1,m 9 60])))))) (sq [m 74 8,m 2 74] .ret))))))
def y4:List Zf:=[(.aK 2)]
def JW:aJ Tryz.prog 84 1 nM y4:=bD [(1,1),(12,1),(24,1),(32,1)] Tryz.func84
def nN:Ze:=(sq [o 2 (.aP 2 [2,6] 0),m0 4] (sq [m 5 1,f 6 3 2,ln 7 2 6,le 8 7,bk 9 .sub 8 1,o 10 (.call 50 [5,(k 0),9]),m 4 10] .ret))
def y5:List Zf:=[(.aK 4)]
def JX:aJ Tryz.prog 89 2 nN y5:=bD [(2,2),(6,2)] Tryz.func89
def mR:Ze:=(sq [o 3 (.aP 3 [3] 0),o 6 (.aQ 6 [6] [z0,z0])] (.seq (.drawn [l 10 3 5 3,m 11 1,o 12 (.bQ 1 11 (k 0)),ld 13 12,m 14 2,c3 15 129 10 13 14,m 7 15]) (sq [m 16 7,m 17 7,o 18 (.build [z0,z0] [(0,(1,16)),(1,(1,17))]),o 8 (.aQ 8 [8,32,36] [z0,z0]),ls 8 2 8 18] (.seq (sq [mi 9 1] (.block 0 (.loop (.seq (sq [m 19 9,m 20 1,le 21 20,b 22 .lss 19 21] (.cond 22 .skip (.exit 0))) (.seq (.block 1 (.seq (.drawn [l 25 3 5 3,m 26 1,m 27 9,ia 28 1 26 27,ld 29 28,m 30 2,c3 31 129 25 29 30,m 7 31]) (.aI [f 32 0 8,ln 33 8 32,m 34 7,o 35 (.bU (.call (.mk (.builtin .min) #[33,34] #[3,3])) 3),f 36 1 8,ln 37 8 36,m 38 7,o 39 (.bU (.call (.mk (.builtin .max) #[37,38] #[3,3])) 3),o 40 (.build [z0,z0] [(0,(1,35)),(1,(1,39))]),ls 8 2 8 40]))) (.aI [m 23 9,bk 24 .add 23 1,m 9 24])))))) (sq [l 41 8 2 8,ls 6 2 6 41] .ret)))))
def y7:List Zf:=[(.jH 6 6 (some 2))]
def JZ:aJ Tryz.prog 94 3 mR y7:=bD [(3,3),(6,6),(8,8),(32,8),(36,8)] Tryz.func94
def MU:Ze:=(sq [mi 4 0] (.seq (sq [m 5 0,bk 6 .eql 5 0] (.cond 6 (sq [mi 4 2] .ret) .skip)) (.seq (sq [m 7 0,m 8 1,b 9 .eql 7 8] (.cond 9 (sq [mi 4 1] .ret) .skip)) (sq [mi 4 0] .ret))))
def Cy:List Zf:=[(.aK 4)]
def Hg:aJ Tryz.prog 99 2 MU Cy:=bD [] Tryz.func99
def mD:Ze:=(sq [o 3 (.aP 3 [3] 0),mi 6 0] (sq [l 10 3 5 3,m 11 1,m 12 2,c3 13 128 10 11 12,m 7 13] (sq [mi 8 0] (.seq (sq [mi 9 0] (.block 0 (.loop (.seq (sq [m 14 9,m 15 7,le 16 15,b 17 .lss 14 16] (.cond 17 .skip (.exit 0))) (.seq (.block 1 (.aI [m 20 8,m 21 7,m 22 9,ia 23 4 21 22,o 24 (.aN 3 23),ld 25 24,o 26 (.bU (.call (.mk (.builtin .max) #[20,25] #[3,3])) 3),m 8 26])) (.aI [m 18 9,bk 19 .add 18 1,m 9 19])))))) (sq [m 27 8,m 6 27] .ret)))))
def vY:List Zf:=[(.aK 6)]
def I8:aJ Tryz.prog 129 3 mD vY:=bD [(3,3)] Tryz.func129
def lS:Ze:=(sq [o 2 (.aP 2 [2,17,24,34,41,48,55] 0),m0 4] (.seq (sq [mi 5 0] (.block 0 (.loop (.seq (sq [m 7 5,m 8 1,le 9 8,b 10 .lss 7 9] (.cond 10 .skip (.exit 0))) (.seq (.block 1 (.seq (.drawn [m 13 1,m 14 5,ia 15 1 13 14,ld 16 15,f 17 3 2,ln 18 2 17,m 19 5,ia 20 5 18 19,o 21 (.aN 1 20),o 22 (.aN 0 21),ld 23 22,f 24 3 2,ln 25 2 24,m 26 5,ia 27 5 25 26,o 28 (.aN 1 27),o 29 (.aN 1 28),ld 30 29,c3 31 50 16 23 30,o 32 (.not 31)]) (.cond 32 (sq [m0 4] .ret) .skip))) (.aI [m 11 5,bk 12 .add 11 1,m 5 12])))))) (.seq (sq [mi 6 0] (.block 2 (.loop (.seq (sq [m 33 6,f 34 4 2,ln 35 2 34,le 36 35,b 37 .lss 33 36] (.cond 37 .skip (.exit 2))) (.seq (.block 3 (.seq (.drawn [(m 40 1,none),(f 41 4 2,none),(ln 42 2 41,none),(m 43 6,none),(ia 44 3 42 43,none),(o 45 (.aN 0 44),none),(ld 46 45,none),(f 48 4 2,none),(ln 49 2 48,none),(m 50 6,none),(ia 51 3 49 50,none),(o 52 (.aN 1 51),none),(o 53 (.aN 0 52),none),(ld 54 53,none),(f 55 4 2,none),(ln 56 2 55,none),(m 57 6,none),(ia 58 3 56 57,none),(o 59 (.aN 1 58),none),(o 60 (.aN 1 59),none),(ld 61 60,none),(c2 47 135 40 46,(some true)),(c3 62 50 47 54 61,none),(o 63 (.not 62),none)]) (.cond 63 (sq [m0 4] .ret) .skip))) (.aI [m 38 6,bk 39 .add 38 1,m 6 39])))))) (sq [m1 4] .ret))))
def vZ:List Zf:=[(.aK 4)]
def I9:aJ Tryz.prog 134 2 lS vZ:=bD [(2,2),(17,2),(24,2),(34,2),(41,2),(48,2),(55,2)] Tryz.func134
def nV:Ze:=(sq [o 1 (.aP 1 [1] 0),mi 2 0,mi 3 0] (.seq (sq [l 5 1 5 1,c1 6 67 5,m 4 6] (sq [m 7 4,bk 8 .neq 7 0] (.cond 8 (sq [m 9 4,mi 2 0,m 3 9] .ret) .skip))) (sq [l 10 1 5 1,c1 11 84 10,le 12 11,m 2 12,mi 3 0] .ret)))
def yV:List Zf:=[(.aK 2),(.aK 3)]
def JP:aJ Tryz.prog 20 1 nV yV:=bD [(1,1)] Tryz.func20
def nJ:Ze:=(sq [o 2 (.aP 2 [2] 0),o 4 (.aQ 4 [4] [z0,z0]),mi 5 0] (.seq (sq [l 9 2 5 2,c1 10 67 9,m 6 10] (sq [m 11 6,bk 12 .neq 11 0] (.cond 12 (sq [o 13 (.build [z0,z0] []),m 14 6,ls 4 2 4 13,m 5 14] .ret) .skip))) (.seq (.drawn [l 16 2 5 2,l 17 2 5 2,m 18 1,(c2 19 79 17 18,(some false)),c2 20 90 16 19,m 15 20,x 21 15 0,x 22 15 1,m 7 21,m 8 22]) (.seq (sq [m 23 8,bk 24 .neq 23 0] (.cond 24 (sq [o 25 (.build [z0,z0] []),m 26 8,ls 4 2 4 25,m 5 26] .ret) .skip)) (sq [l 27 2 5 2,m 28 7,m 29 1,c3 30 94 27 28 29,ls 4 2 4 30,mi 5 0] .ret)))))
def yX:List Zf:=[(.jH 4 4 (some 2)),(.aK 5)]
def JR:aJ Tryz.prog 25 2 nJ yX:=bD [(2,2),(4,4)] Tryz.func25
def l8:Ze:=(sq [m0 4] (.seq (sq [mi 5 0] (.block 0 (.loop (.seq (sq [m 6 5,m 7 0,le 8 7,b 9 .lss 6 8] (.cond 9 .skip (.exit 0))) (.seq (.block 1 (sq [m 12 0,m 13 5,ia 14 1 12 13,ld 15 14,m 16 1,b 17 .eql 15 16] (.cond 17 (sq [m1 4] .ret) .skip))) (.aI [m 10 5,bk 11 .add 10 1,m 5 11])))))) (sq [m0 4] .ret)))
def rU:List Zf:=[(.aK 4)]
def sE:aJ Tryz.prog 40 2 l8 rU:=bD [] Tryz.func40
def mQ:Ze:=(sq [o 2 (.aP 2 [2] 0),o 4 (.cY (.const s0)),mi 5 0] (.seq (sq [m 7 1,bk 8 .neq 7 0] (.cond 8 (sq [m 9 1,o 4 (.cY (.const s0)),m 5 9] .ret) .skip)) (sq [l 10 2 5 2,c1 11 84 10,m 6 11] (.seq (sq [m 12 6,le 13 12,bk 14 .eql 13 0] (.cond 14 (sq [o 4 (.cY (.const s0)),mi 5 9] .ret) .skip)) (sq [m 15 6,m 4 15,mi 5 0] .ret)))))
def y6:List Zf:=[(.aK 4),(.aK 5)]
def JY:aJ Tryz.prog 90 2 mQ y6:=bD [(2,2)] Tryz.func90
def mT:Ze:=(sq [o 3 (.aP 3 [3] 0),mi 6 0] (sq [mi 7 0] (.seq (sq [mi 8 0] (.block 0 (.loop (.seq (sq [m 9 8,m 10 1,le 11 10,b 12 .lss 9 11] (.cond 12 .skip (.exit 0))) (.seq (.block 1 (.seq (.drawn [l 15 3 5 3,m 16 1,m 17 8,ia 18 1 16 17,ld 19 18,m 20 2,c3 21 146 15 19 20]) (.cond 21 (.aI [m 22 7,bk 23 .add 22 1,m 7 23]) .skip))) (.aI [m 13 8,bk 14 .add 13 1,m 8 14])))))) (sq [m 24 7,m 25 1,le 26 25,c2 27 99 24 26,m 6 27] .ret))))
def y9:List Zf:=[(.aK 6)]
def I6:aJ Tryz.prog 100 3 mT y9:=bD [(3,3)] Tryz.func100
def mV:Ze:=(sq [mi 4 0] (sq [mi 5 0] (.seq (sq [mi 6 0] (.block 0 (.loop (.seq (sq [m 7 6,m 8 1,le 9 8,b 10 .lss 7 9] (.cond 10 .skip (.exit 0))) (.seq (.block 1 (.aI [m 13 5,m 14 0,m 15 1,m 16 6,ia 17 1 15 16,ld 18 17,ia 19 1 14 18,ld 20 19,b 21 .add 13 20,m 5 21])) (.aI [m 11 6,bk 12 .add 11 1,m 6 12])))))) (sq [m 22 5,m 4 22] .ret))))
def v7:List Zf:=[(.aK 4)]
def JA:aJ Tryz.prog 135 2 mV v7:=bD [] Tryz.func135
def lT:Ze:=(sq [mi 2 0] (sq [mi 3 0] (.seq (sq [mi 4 1] (.block 0 (.loop (.seq (sq [m 5 4,m 6 0,le 7 6,b 8 .lss 5 7] (.cond 8 .skip (.exit 0))) (.seq (.block 1 (.seq (.drawn [m 11 0,m 12 4,ia 13 1 11 12,ld 14 13,m 15 0,m 16 3,ia 17 1 15 16,ld 18 17,b 19 .lss 14 18]) (.cond 19 (.aI [m 20 4,m 3 20]) .skip))) (.aI [m 9 4,bk 10 .add 9 1,m 4 10])))))) (sq [m 21 3,m 2 21] .ret))))
def wB:List Zf:=[(.aK 2)]
def JC:aJ Tryz.prog 165 1 lT wB:=bD [] Tryz.func165
def Pl:Ze:=(sq [o 2 (.cY (.const s0))] (sq [o 3 (.cY (.const s0))] (.seq (sq [mi 4 0] (.block 0 (.loop (.seq (sq [m 6 4,m 7 0,le 8 7,b 9 .lss 6 8] (.cond 9 .skip (.exit 0))) (.seq (.block 1 (sq [mi 5 0] (.seq (.block 2 (.loop (.seq (.seq (.drawn [m 12 5,m 13 3,le 14 13,b 15 .lss 12 14,m 16 15,mt 16 17 3,mt 16 18 5,gt 16 19 (.bQ 1 17 18),gt 16 20 (.ld none 19),mt 16 21 0,mt 16 22 4,gt 16 23 (.bQ 1 21 22),gt 16 24 (.ld none 23),gt 16 25 (.aY .lss 20 24),pa 26 16 25]) (.cond 26 .skip (.exit 2))) (.block 3 (.aI [m 27 5,bk 28 .add 27 1,m 5 28]))))) (.seq (.drawn [m 29 5,m 30 3,le 31 30,b 32 .eql 29 31,m 33 32,mf 33 34 3,mf 33 35 5,gf 33 36 (.bQ 1 34 35),gf 33 37 (.ld none 36),mf 33 38 0,mf 33 39 4,gf 33 40 (.bQ 1 38 39),gf 33 41 (.ld none 40),gf 33 42 (.aY .neq 37 41),po 43 33 42]) (.cond 43 (.drawn [m 44 3,m 45 5,o 46 (.bU (.slice 26 44 none (some 45) none) 26),m 47 0,m 48 4,ia 49 1 47 48,ld 50 49,m 52 3,m 53 5,o 54 (.bU (.slice 26 52 (some 53) none none) 26),(o 51 (.aO 3 1 [z0] [(0,(1,50))]),(some false)),(o 55 (.raw (.call (.mk (.builtin .append) #[51,54] #[26,26])) 26),(some false)),(o 56 (.raw (.call (.mk (.builtin .append) #[46,55] #[26,26])) 26),none),m 3 56]) .skip))))) (.aI [m 10 4,bk 11 .add 10 1,m 4 11])))))) (sq [m 57 3,m 2 57] .ret))))
def r57:List Zf:=[(.aK 2)]
def c57:aJ Tryz.prog 91 1 Pl r57:=bD [] Tryz.func91
def mW:Ze:=(sq [o 3 (.aP 3 [3,18] 0),m0 6] (.seq (.drawn [l 7 3 5 3,m 8 1,m 9 2,c3 10 98 7 8 9,le 11 10,bk 12 .eql 11 0,m 13 12,gt 13 14 (.dA 3 (some 5) 3),mt 13 15 1,mt 13 16 2,gt 13 18 (.aU 2 3),gt 13 19 (.dA 3 none 18),(gt 13 17 (.call 129 [14,15,16]),(some false)),gt 13 20 (.aY .leq 17 19),pa 21 13 20,m 6 21]) .ret))
def wA:List Zf:=[(.aK 6)]
def JB:aJ Tryz.prog 146 3 mW wA:=bD [(3,3),(18,3)] Tryz.func146
end
def N4.A0(n:N4):List Int:=[n.a,n.b,n.c,n.d]
def fH(k n:Nat):Int:=if k=0 then 2 else if k=n then 1 else 0
theorem lL{α:Type}{p:List α->Prop}(g:p [])(h:∀l x,p l->p (l++[x])):∀l,p l:=by
 have:∀(n:Nat) (l:List α),l.length=n->p l:=by
  intro n;induction n with
  | zero=>intro l e;rw[qAb e];exact g
  | succ n ih=>
   intro l e;have f:l≠[]:=by rintro rfl;simp at e
   rw[<-qEl f];exact h _ _ (ih _ (by simp;omega))
 exact λl=>this _ l rfl
section
open Go.Z
def nH:Ze:=(sq [o 3 (.aP 3 [3] 0),m0 6] (.seq (sq [l 17 3 5 3,c1 18 17 17,m 19 18,mf 19 20 1,gf 19 21 (.len 20),gf 19 22 (.aY .gtr 21 (k 20)),po 23 19 22] (.cond 23 (sq [c0 24 18,m 6 24] .ret) .skip)) (sq [l 26 3 5 3,c1 27 19 26,m 25 27,x 28 25 0,x 29 25 1,m 7 28,m 8 29] (sq [l 31 3 5 3,c1 32 20 31,m 30 32,x 33 30 0,x 34 30 1,m 9 33,m 10 34] (.seq (sq [m 35 7,m 36 9,b 37 .neq 35 36,m 38 37,mf 38 39 8,mf 38 40 10,gf 38 41 (.aY .neq 39 40),po 42 38 41] (.cond 42 (sq [m0 6] .ret) .skip)) (sq [l 44 3 5 3,m 45 2,c2 46 21 44 45,m 43 46,x 47 43 0,x 48 43 1,m 11 47,m 8 48] (sq [l 50 3 5 3,m 51 2,c2 52 22 50 51,m 49 52,x 53 49 0,x 54 49 1,m 12 53,m 10 54] (.seq (sq [m 55 11,m 56 12,c2 57 23 55 56,o 58 (.not 57),m 59 58,mf 59 60 8,mf 59 61 10,gf 59 62 (.aY .neq 60 61),po 63 59 62] (.cond 63 (sq [m0 6] .ret) .skip)) (sq [l 65 3 5 3,m 66 1,c2 67 24 65 66,m 64 67,x 68 64 0,x 69 64 1,o 13 (.aQ 13 [13] [z0,z0]),ls 13 2 13 68,m 8 69] (sq [l 71 3 5 3,m 72 1,c2 73 25 71 72,m 70 73,x 74 70 0,x 75 70 1,o 14 (.aQ 14 [14] [z0,z0]),ls 14 2 14 74,m 10 75] (.seq (sq [l 76 13 2 13,l 77 14 2 14,o 78 (.bU (.binOp .neq 36 76 77 36) 4),m 79 78,mf 79 80 8,mf 79 81 10,gf 79 82 (.aY .neq 80 81),po 83 79 82] (.cond 83 (sq [m0 6] .ret) .skip)) (sq [l 85 3 5 3,m 86 1,m 87 2,c3 88 26 85 86 87,m 84 88,x 89 84 0,x 90 84 1,m 15 89,m 8 90] (sq [l 92 3 5 3,m 93 1,m 94 2,c3 95 27 92 93 94,m 91 95,x 96 91 0,x 97 91 1,m 16 96,m 10 97] (.seq (sq [m 98 15,m 99 16,b 100 .neq 98 99,m 101 100,mf 101 102 8,mf 101 103 10,gf 101 104 (.aY .neq 102 103),po 105 101 104] (.cond 105 (sq [m0 6] .ret) .skip)) (sq [l 107 3 5 3,m 108 1,c2 109 28 107 108,m 106 109,x 110 106 0,x 111 106 1,m 15 110,m 8 111] (sq [l 113 3 5 3,m 114 1,c2 115 29 113 114,m 112 115,x 116 112 0,x 117 112 1,m 16 116,m 10 117] (sq [m 118 15,m 119 16,b 120 .eql 118 119,m 121 120,mt 121 122 8,mt 121 123 10,gt 121 124 (.aY .eql 122 123),pa 125 121 124,m 126 125,gt 126 127 (.call 18 []),pa 128 126 127,m 6 128] .ret)))))))))))))))))
def mM:List Zf:=[(.aK 6)]
def R6:aJ Tryz.prog 3 3 nH mM:=bD [(3,3),(13,13),(14,14)] Tryz.func3
end
variable{α:Type}{r:Nat}{E:TypeId}
section
variable{P:aX}[Tz P][Loud P]{H:Hp}
def qJ(k n:Nat):LL.Zc P 99 #[vi k,vi n] H λv e=>H=e/\v=vi (fH k n):=by
 refine aJ.m (bG Hg) (args:=[vi k,vi n]) rfl ?_;unfold MU;refine OJ (λf=>?_) (λf=>?_)
 ·refine Y ?_;exact⟨rfl,by rw[fH,iF O];rfl⟩
 refine OJ (λg=>?_) (λg=>?_)
 ·refine Y ?_;exact⟨rfl,by rw[fH,aT O,iF O];rfl⟩
 refine Y ?_;exact⟨rfl,by rw[fH,aT O,aT O];rfl⟩
end
def lW[Enc α]{H:Hp}{l:List α}(f:H r=none):dD H (H.ins r (.cells (Zb l).toArray E)) E (.slice (some ⟨r,0,none⟩) l.length l.length) l (some r):=
 ⟨⟨VH l,.inr ⟨r,l.length,[],rfl,rfl,by rw[qAf];exact Hp.aG _ _ _,by rw[qAf];exact VH l,dO _⟩⟩,λg e=>by obtain rfl:=iO e;exact f⟩
def EV[Enc α]{H:Hp}(e:H r=none):dD H (H.ins r (.cells #[] E)) E (.slice (some ⟨r,0,none⟩) 0 0) ([]:List α) (some r):=lW (l:=([]:List α)) e
theorem mL{G:Prop} (h:G:=by
  have Rp:zz.length<=j:=O;refine Y ?_;refine IE (k:=.i64) (lo:=0) (hi:=t) (bI dW) (cD t3) rfl (.inl ⟨rfl,rfl⟩) ⟨_,rfl,rfl⟩ (qAI _) tc (Y ?_);refine Zz j (lG.inc i1) g9 λa ha=>Y ?_;refine Zh (OL _) rfl (G6 (.refl _) a ha) (Y ?_);refine Ik (lo:=t) (bI dW) (cD t3) rfl rfl ht (Y ?_);refine ZY (cs:=[vi x]) (OL _) rfl λr1 KA=>?_;refine Zp OL ?_;have o3:dD H1 (H1.ins r1 (.cells [vi x].toArray 3)) 3 (.slice (some ⟨r1,0,none⟩) 1 1) [x] (some r1):=lW (l:=[x]) KA;have i3:aL H1 (H1.ins r1 (.cells [vi x].toArray 3)):=Zs KA;generalize H1.ins r1 (.cells [vi x].toArray 3)=H3 at *;have hdl:(zz.drop t).length<=zz.length:=by rw[qDM];omega
  have SR:(zz.take t).length<=zz.length:=by rw[qAj];omega
  refine Y ?_;refine U7 (l':=zz.drop t) (bI dW) (bI dW) (cD t3) rfl (by decide) i3 o3 (dt.inc i3) (TS _) (by simp only[qAA];omega) O rfl rfl (OL _) λv4 H4 b4 i4 o4 _=>?_;refine Zp OL (Y ?_);have ot4:dD H H4 3 (.slice (if c=0 then A else A.map (·.add (0 * 1))) (t-0) (c-0)) (zz.take t) bb:=⟨(ot.inc i4).own,ot.fresh⟩;refine U7 (l':=[x]++zz.drop t) (bI dW) (bI dW) (cD t3) rfl (by decide) (i1.trans i4) ot4 o4.sl (TS _) (by simp only[BY,qAA];omega) O rfl rfl (OL _) λv5 H5 b5 i5 o5 _=>?_;have e5:zz.take t++([x]++zz.drop t)=bT (l.take (j+1)):=by rw[Ev,h3];rfl
  rw[e5]at o5;obtain⟨A5,c5,rfl,_⟩:=id o5.sl;refine Y ?_;exact⟨(⟨j+1,O⟩,((A5,c5),b5)),bN O,⟨i5,o5⟩,V,trivial,rfl⟩):G:=h
def g8(x:Int):List Int->List Int
 | []=>[x]
 | y :: r=>if y<x then y :: g8 x r else if y=x then y :: r else x :: y :: r
def bT(l:List Int):List Int:=l.foldl (λo x=>g8 x o) []
theorem ET{l:List Int}{j:Nat}(e:j<l.length):bT (l.take (j+1))=g8 l[j] (bT (l.take j)):=by rw[bT,iN e,qCE];rfl
def oS(x:Int):∀l,(g8 x l).length<=l.length+1
 | []=>by simp[g8]
 | y :: r=>by
  rw[g8];have:=oS x r;split
  ·simp only[qAs];omega
  split<;>simp
def lV:∀l:List Int,(bT l).length<=l.length:=by refine lL (by simp[bT]) λl x ih=>?_;have:=oS x (bT l);rw[bT,qCE,BY,qAA];show(g8 x (bT l)).length<=_;omega
def oC{x:Int}:∀{l:List Int} {t:Nat},t<=l.length->(∀i (h:i<l.length),i<t->l[i]<x)->g8 x l=l.take t++g8 x (l.drop t)
 | l,0,_,_=>by simp
 | [],t+1,h,_=>by simp at h
 | y :: r,t+1,h,e=>by have f:y<x:=e 0 (by simp) O;rw[g8,iF f,oC (l:=r) (t:=t) (by simpa using h) λi g j=>by have:=e (i+1) (by simpa using g) O;simpa using this];simp
def uJ[Enc α]{p H:Hp}{a:Option Addr}{n c t:Nat}{l:List α}{b:Option Nat}(h:dD p H E (.slice a n c) l b)(m:t<=l.length):t<=c/\dD p H E (.slice (if c=0 then a else a.map (·.add (0 * Enc.sz α))) (t-0) (c-0)) (l.take t) b/\aF H (.slice (if c=t then a else a.map (·.add (t * Enc.sz α))) (n-t) (c-t)) (l.drop t):=by
 have s:(if c=0 then a else a.map (·.add (0 * Enc.sz α)))=a:=by
  split
  ·rfl
  rw[qDm];cases a with
  | none=>rfl
  | some a=>rw[qBZ,add_zero]
 rw[s,qBI,qBI];obtain⟨B,⟨e,f,g⟩ | ⟨r,cap,rest,e,f,g,w,C⟩⟩:=h.own
 ·have:l=[]:=qAb f;subst this;simp only[Value.slice.injEq]at e;obtain⟨rfl,rfl,rfl⟩:=e;have:t=0:=by simpa using m
  subst this;exact⟨dO _,⟨⟨by simp[Zb],.inl ⟨rfl,rfl,g⟩⟩,h.fresh⟩,_,_,rfl,λk=>absurd (by simp) k⟩
 simp only[Value.slice.injEq]at f;obtain⟨rfl,rfl,rfl⟩:=f;have i:Zb l=Zb (l.take t)++Zb (l.drop t):=by rw[<-IK,qCw]
 refine⟨O,⟨⟨VH _,.inr ⟨r,c,Zb (l.drop t)++rest,e,by rw[qAj,qCr m],by rw[g,i,qAW],by rw[<-qAW,<-i];exact w,by rw[qAj];omega⟩⟩,h.fresh⟩,?_⟩;refine⟨_,c-t,by rw[qDM],λk=>?_⟩;have u:t<l.length:=by
  rcases qBi t l.length with h | h
  ·exact h
  exact absurd (qBw h) k
 rw[aT O];refine⟨_,rfl,P4 rfl _,_,_,by rw[II];exact g,λj A=>?_⟩;rw[IJ];simp only[Obj.mB,qAH];have q:(Zb (l.take t)).length=t * Enc.sz α:=by rw[VH,qAj,qCr m]
 rw[i,qAW,qBP O,qBf O];congr 1;omega
section
variable{P:aX}[Tz P][Loud P]{H:Hp}
def RU{lv:Value}{l:List Int}(lG:aF H lv l)(L:l.length<=1000000) :
  LL.Zc P 91 #[lv] H λv f=>aL H f/\∃bb,dD H f 3 v (bT l) bb:=by
 refine aJ.m (bG c57) (args:=[lv]) rfl ?_;unfold Pl;refine Y ?_;refine ZO (α:=(Option Addr×Nat)×Option Nat) l.length (λj s f=>aL H f/\dD H f 3 (.slice s.1.1 (bT (l.take j)).length s.1.2) (bT (l.take j)) s.2) (λj s=>[(0,lv),(3,.slice s.1.1 (bT (l.take j)).length s.1.2),(4,vi j)]) (λ_ _=>[]) ((none,0),none) ⟨.refl H,.nil _ _ _⟩ V trivial ?_;rintro j ⟨⟨A,c⟩,bb⟩ H1 K ⟨i1,o⟩;simp only at o;have G:=lV (l.take j);have SR:(l.take j).length<=j:=by rw[qAj];omega
 refine Y ?_;refine YE (lG.inc i1) rfl ?_;refine OJ (λD=>?_) (λD=>?_)
 ·have g9:j<l.length:=O;have Ev:=ET g9;have s1:=o.sl;generalize J:bT (l.take j)=zz at *;generalize F:l[j]=x at *;have G6:∀{f:Hp},aL H1 f->∀a,aC f a (Enc.enc l[j])->aC f a [vi x]:=λ_ a ha=>by rw[<-F];exact ha
  refine OB ?_;refine Z9 ?_;refine OB ?_;refine Z2 (λ(t:Nat) f=>H1=f/\t<=zz.length/\(∀i (h:i<zz.length),i<t->zz[i]<x)/\(∀h:t<zz.length,¬ zz[t]<x)) (λt=>[(0,lv),(3,.slice A zz.length c),(4,vi j),(5,vi t)]) (λ_=>[]) ?_ ?_
  ·refine Y ?_;refine Zv zz.length (λt f=>H1=f/\(∀i (h:i<zz.length),i<t->zz[i]<x)) (λt=>[(0,lv),(3,.slice A zz.length c),(4,vi j),(5,vi t)]) (λ_=>[]) ⟨rfl,λi h p=>O⟩ V trivial ?_;rintro t _ ht ⟨rfl,g⟩;refine OJ (λp=>?_) (λp=>?_)
   ·have n:t<zz.length:=O;refine Y ?_;refine Zz t s1 n λa ha=>Y ?_;refine Ya ha (Y ?_);refine Zz j (lG.inc i1) g9 λa ha=>Y ?_;refine Zh (OL _) rfl (G6 (.refl _) a ha) ?_;refine OJ (λh3=>?_) (λh3=>?_)
    ·refine Y ?_;exact⟨⟨t+1,O⟩,bN O,⟨rfl,λi h (q:i<t+1)=>by
      by_cases e:i=t
      ·subst e;exact h3
      exact g i h O⟩,V,trivial,rfl⟩
    refine Y ?_;exact⟨t,⟨rfl,ht,g,λ_=>h3⟩,V,trivial,rfl⟩
   have:t=zz.length:=O;subst this;refine Y ?_;exact⟨zz.length,⟨rfl,dO _,g,λh=>absurd h (Nat.lt_irrefl _)⟩,V,trivial,rfl⟩
  rintro t _ ⟨rfl,ht,g,w⟩;have k:=oC ht g;obtain⟨tc,ot,dt⟩:=uJ o ht;have ins:g8 x (zz.drop t)=x :: zz.drop t->g8 x zz=zz.take t++(x :: zz.drop t):=λh=>by rw[k,h]
  refine OJ (λp=>?_) (λp=>?_)
  ·have I:t=zz.length:=O;have h3:=ins (by rw[qBw O];rfl);exact mL
  have n:t<zz.length:=O;refine Y ?_;refine Zz t s1 n λa ha=>Y ?_;refine Ya ha (Y ?_);refine Zz j (lG.inc i1) g9 λa ha=>Y ?_;refine Zh (OL _) rfl (G6 (.refl _) a ha) (Y ?_);have u:=qCc n;have B:=w n;refine OI (λq=>?_) (λq=>?_)
  ·have h3:=ins (by rw[u,g8,aT B,aT q]);exact mL
  have h3:g8 x zz=zz:=by rw[k,u,g8,aT B,iF q,<-u,qCw]
  refine Y ?_;exact⟨(⟨j+1,O⟩,((A,c),bb)),bN O,⟨i1,by rw[Ev,h3];exact o⟩,⟨rfl,by rw[Ev,h3];rfl,rfl,trivial⟩,trivial,rfl⟩
 have:j=l.length:=O;subst this;rw[IF]at o;refine Y ?_;exact⟨i1,bb,by rw[IF];exact o⟩
end
def kS:∀{l m:List Int},l.Pairwise (·<·)->m.Pairwise (·<·)->(∀x,x∈l↔x∈m)->l=m
 | [],[],_,_,_=>rfl
 | [],y :: m,_,_,h=>by have:=(h y).2 (qBv ..);simp at this
 | x :: l,[],_,_,h=>by have:=(h x).1 (qBv ..);simp at this
 | x :: l,y :: m,n,o,h=>by
  obtain⟨k,p⟩:=qAJ.1 n;obtain⟨m1,q⟩:=qAJ.1 o;have g:x=y:=by
   have i:=(h x).1 (qBv ..);have j:=(h y).2 (qBv ..);rcases qAq.1 i with rfl | i
   ·rfl
   rcases qAq.1 j with rfl | j
   ·rfl
   have:=k y j;have:=m1 x i;omega
  subst g;congr 1;refine kS p q λz=>⟨λf=>?_,λf=>?_⟩
  ·rcases qAq.1 ((h z).1 (qAP _ f))with rfl | e
   ·have:=k z f;omega
   exact e
  rcases qAq.1 ((h z).2 (qAP _ f))with rfl | e
  ·have:=m1 z f;omega
  exact e
def jU(x:Int):∀(l:List Int) (z:Int),z∈g8 x l↔z=x\/z∈l
 | [],z=>by simp[g8]
 | y :: r,z=>by
  rw[g8];have ih:=jU x r z;split
  ·rw[qAq,ih,qAq];constructor
   ·rintro(h | h | h)
    ·exact .inr (.inl h)
    ·exact .inl h
    exact .inr (.inr h)
   rintro(h | h | h)
   ·exact .inr (.inl h)
   ·exact .inl h
   exact .inr (.inr h)
  split
  ·rename_i h;subst h;rw[qAq];constructor
   ·exact .inr
   rintro(h | h)
   ·exact .inl h
   exact h
  rw[qAq]
def oB(x:Int):∀{l:List Int},l.Pairwise (·<·)->(g8 x l).Pairwise (·<·)
 | [],_=>by simp[g8]
 | y :: r,h=>by
  obtain⟨f,g⟩:=qAJ.1 h;rw[g8];split
  ·rename_i i;refine qAJ.2 ⟨λz e=>?_,oB x g⟩;rcases(jU x r z).1 e with rfl | e
   ·exact i
   exact f z e
  split
  ·exact h
  refine qAJ.2 ⟨λz e=>?_,h⟩;rcases qAq.1 e with rfl | e
  ·omega
  have:=f z e;omega
def EU:∀l:List Int,(bT l).Pairwise (·<·)/\∀z,z∈bT l↔z∈l:=by
 refine lL ⟨.nil,λz=>qCH⟩ λl x ih=>?_;have e:bT (l++[x])=g8 x (bT l):=by rw[bT,qCE];rfl
 rw[e];refine⟨oB x ih.1,λz=>?_⟩;rw[jU,ih.2 z,qAi,oR];exact Or.comm
def qM{l:List Int}(h:l.Pairwise (·<=·)):∀n,n<=l.length->(Z8 l n).Pairwise (·<·)/\(∀z,z∈Z8 l n↔z∈l.take n)/\(∀z∈Z8 l n,z<=el l (n-1))
 | 0,_=>⟨.nil,λz=>by simp[Z8],λz e=>by simp[Z8]at e⟩
 | n+1,D=>by
  obtain⟨p,q,k⟩:=qM h n O;have f:∀i j,i<=j->j<l.length->el l i<=el l j:=by
   intro i j C s;rw[Uu O,Uu s];rcases qBi i j with m | m
   ·exact qAY.1 h i j O s m
   have:i=j:=O;subst this;exact qAx _
  rw[CB O];by_cases o:n=0
  ·subst o;rw[PT];exact⟨qAS _ _,λz=>by simp,λz e=>by rw[oR.1 e];exact qAx _⟩
  by_cases g:el l n=el l (n-1)
  ·rw[KN o g];refine⟨p,λz=>?_,λz e=>?_⟩
   ·rw[q,qAi,oR];constructor
    ·exact .inl
    rintro(e | rfl)
    ·exact e
    rw[g];have t:n=(n-1)+1:=O;rw[t,CB O];simp
   have:=k z e;rw[qAU,g];exact this
  rw[KO g];refine⟨?_,λz=>?_,λz e=>?_⟩
  ·rw[qBn];refine⟨p,qAS _ _,λa A c B=>?_⟩;rw[oR.1 B];have u:=k a A;have w:=f (n-1) n O O;omega
  ·rw[qAi,q,qAi]
  rw[qAU];rcases qAi.1 e with e | e
  ·have u:=k z e;have w:=f (n-1) n O O;omega
  rw[oR.1 e];exact qAx _
def JF{l m:List Int}(h:l.Pairwise (·<=·))(j:∀z,z∈l↔z∈m):Oh l=bT m:=by obtain⟨e,f,_⟩:=qM h l.length (dO _);obtain⟨g,i⟩:=EU m;exact kS e g λz=>by rw[Oh,f,i,IF];exact j z
