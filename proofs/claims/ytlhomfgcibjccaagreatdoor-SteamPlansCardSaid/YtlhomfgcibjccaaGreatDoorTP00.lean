import Derived.Test.YtlhomfgcibjccaaGreatDoorP39
set_option linter.all false
set_option maxHeartbeats 1000000
section
namespace Go.LL
section
variable{P:aX}{d:Option Nat}{r:List NI}{op:bE}{Q:aM->Hp->Prop}{next:aM->Hp->Prop}{σ:aM}{H:Hp}{x y z:Operand}{v:Value}
variable{l:List (NI×Option Bool)}
def yO{f:Option Bool}{t:Nat}{b:Bool}(g:P.still H.gh=false)(e:σ.env t=some undef)(h:ZT P l Q (σ.fB d) H):ZT P ((⟨some (t,b),d,op⟩,f) :: l) Q σ H:=by cases b<;>(simp only[ZT,e,undef];exact⟨g,h⟩)
variable{Qe:Ex->aM->Hp->Prop}{a b c:Ze}
end
end Go.LL
end
open Go Go.LL
namespace Go.Proofs
section
open Go.Z
def nH:Ze:=(sq [o 1 (.aP 1 [1,10,23] 0),o 2 (.cY (.const s0))] (sq [o 8 (.aO 26 1 [s0] [(0,(1,(.const s0)))]),m 3 8] (.seq (sq [mi 4 0] (.block 0 (.loop (.seq (sq [m 9 4,f 10 3 1,ln 11 1 10,le 12 11,b 13 .lss 9 12] (.cond 13 .skip (.exit 0))) (.seq (.block 1 (sq [o 5 (.cY (.const s0))] (.seq (sq [mi 6 0] (.block 2 (.loop (.seq (sq [m 16 6,m 17 3,le 18 17,b 19 .lss 16 18] (.cond 19 .skip (.exit 2))) (.seq (.block 3 (sq [mi 7 0] (.block 4 (.loop (.seq (sq [m 22 7,f 23 3 1,ln 24 1 23,le 25 24,b 26 .lss 22 25] (.cond 26 .skip (.exit 4))) (.seq (.block 5 (sq [m 29 3,m 30 6,ia 31 1 29 30,ld 32 31,m 33 7,c2 34 40 32 33,o 35 (.not 34)] (.cond 35 (.aI [m 36 5,o 37 (.raw (.buildSlice 26 0 #[]) 26),m 38 3,m 39 6,ia 40 1 38 39,ld 41 40,o 42 (.raw (.call (.mk (.builtin .append) #[37,41] #[26,26])) 26),m 43 7,o 44 (.aO 3 1 [z0] [(0,(1,43))]),o 45 (.raw (.call (.mk (.builtin .append) #[42,44] #[26,26])) 26),o 46 (.aO 26 1 [s0] [(0,(1,45))]),o 47 (.raw (.call (.mk (.builtin .append) #[36,46] #[68,68])) 68),m 5 47]) .skip))) (.aI [m 27 7,bk 28 .add 27 1,m 7 28]))))))) (.aI [m 20 6,bk 21 .add 20 1,m 6 21])))))) (.aI [m 48 5,m 3 48])))) (.aI [m 14 4,bk 15 .add 14 1,m 4 15])))))) (sq [m 49 3,m 2 49] .ret))))
def y4:List Zf:=[(.aK 2)]
def JS:aJ Tryz.prog 47 1 nH y4:=bD [(1,1),(10,1),(23,1)] Tryz.func47
def oC:Ze:=(sq [o 1 (.aP 1 [1] 0),o 2 (.cY (.const s0)),o 3 (.aQ 3 [3] [z0,z0]),m0 4,mi 5 0] (.seq (sq [l 12 1 5 1,c1 13 67 12,m 6 13] (sq [m 14 6,bk 15 .neq 14 0] (.cond 15 (sq [o 16 (.build [z0,z0] []),m 17 6,o 2 (.cY (.const s0)),ls 3 2 3 16,m0 4,m 5 17] .ret) .skip))) (sq [l 19 1 5 1,o 20 (.call 90 [19,(k 0)]),m 18 20,x 21 18 0,x 22 18 1,m 7 21,m 8 22] (.seq (sq [m 23 8,bk 24 .neq 23 0] (.cond 24 (sq [o 25 (.build [z0,z0] []),m 26 8,o 2 (.cY (.const s0)),ls 3 2 3 25,m0 4,m 5 26] .ret) .skip)) (sq [l 27 1 5 1,m 28 7,c2 29 103 27 28,m 9 29] (.seq (sq [m 30 9,le 31 30,bk 32 .eql 31 0] (.cond 32 (sq [o 33 (.build [z0,z0] []),o 2 (.cY (.const s0)),ls 3 2 3 33,m0 4,mi 5 0] .ret) .skip)) (sq [m 34 9,o 35 (.bQ 1 34 (k 0)),ld 36 35,m 10 36] (.seq (sq [mi 11 1] (.block 0 (.loop (.seq (sq [m 37 11,m 38 9,le 39 38,b 40 .lss 37 39] (.cond 40 .skip (.exit 0))) (.seq (.block 1 (.seq (.drawn [l 43 1 5 1,m 44 7,m 45 9,m 46 11,ia 47 1 45 46,ld 48 47,l 51 1 5 1,m 52 7,m 53 10,(c3 49 94 43 44 48,(some false)),o 50 (.lR 1 none 49),(c3 54 94 51 52 53,(some false)),o 55 (.lR 1 none 54),b 56 .lss 50 55]) (.cond 56 (.aI [m 57 9,m 58 11,ia 59 1 57 58,ld 60 59,m 10 60]) .skip))) (.aI [m 41 11,bk 42 .add 41 1,m 11 42])))))) (sq [m 61 10,l 62 1 5 1,m 63 7,m 64 10,c3 65 94 62 63 64,m 2 61,ls 3 2 3 65,m1 4,mi 5 0] .ret)))))))))
def yZ:List Zf:=[(.aK 2),(.jH 3 3 (some 2)),(.aK 4),(.aK 5)]
def JQ:aJ Tryz.prog 33 1 oC yZ:=bD [(1,1),(3,3)] Tryz.func33
def nK:Ze:=(sq [o 3 (.aP 3 [3,30] 0),o 6 (.cY (.const s0))] (sq [l 10 3 5 3,m 11 1,m 12 2,c3 13 128 10 11 12,m 7 13] (sq [o 8 (.cY (.const s0))] (.seq (sq [mi 9 0] (.block 0 (.loop (.seq (sq [m 14 9,m 15 7,le 16 15,b 17 .lss 14 16] (.cond 17 .skip (.exit 0))) (.seq (.block 1 (.seq (.drawn [m 20 7,m 21 9,ia 22 4 20 21,o 23 (.aN 3 22),ld 24 23,m 25 7,m 26 9,ia 27 4 25 26,o 28 (.aN 1 27),ld 29 28,f 30 3 3,ln 31 3 30,m 32 9,ia 33 5 31 32,o 34 (.aN 4 33),ld 35 34,b 36 .add 29 35,b 37 .gtr 24 36]) (.cond 37 (.aI [m 38 8,m 39 9,o 40 (.aO 3 1 [z0] [(0,(1,39))]),o 41 (.raw (.call (.mk (.builtin .append) #[38,40] #[26,26])) 26),m 8 41]) .skip))) (.aI [m 18 9,bk 19 .add 18 1,m 9 19])))))) (sq [m 42 8,m 6 42] .ret)))))
def y9:List Zf:=[(.aK 6)]
def JY:aJ Tryz.prog 98 3 nK y9:=bD [(3,3),(30,3)] Tryz.func98
def nM:Ze:=(sq [o 2 (.aP 2 [2] 0),o 4 (.cY (.const s0))] (sq [o 5 (.cY (.const s0))] (sq [l 8 2 5 2,c1 9 47 8,m 6 9] (.seq (sq [mi 7 0] (.block 0 (.loop (.seq (sq [m 10 7,m 11 6,le 12 11,b 13 .lss 10 12] (.cond 13 .skip (.exit 0))) (.seq (.block 1 (.seq (.drawn [l 16 2 5 2,m 17 1,m 18 6,m 19 7,ia 20 1 18 19,ld 21 20,c3 22 100 16 17 21,bk 23 .eql 22 1]) (.cond 23 (.aI [m 24 5,m 25 6,m 26 7,ia 27 1 25 26,ld 28 27,o 29 (.aO 26 1 [s0] [(0,(1,28))]),o 30 (.raw (.call (.mk (.builtin .append) #[24,29] #[68,68])) 68),m 5 30]) .skip))) (.aI [m 14 7,bk 15 .add 14 1,m 7 15])))))) (sq [m 31 5,m 4 31] .ret)))))
def vY:List Zf:=[(.aK 4)]
def I5:aJ Tryz.prog 103 2 nM vY:=bD [(2,2)] Tryz.func103
def nN:Ze:=(sq [o 3 (.aP 3 [3,21,69,140] 0),o 6 (.cY (.const s0))] (sq [m 18 2,le 19 18,o 20 (.raw (.makeSlice 61 19 19) 61),m 7 20] (sq [f 21 0 3,ln 22 3 21,o 23 (.raw (.makeSlice 26 22 22) 26),m 8 23] (.seq (sq [mi 9 0] (.block 0 (.loop (.seq (sq [m 24 9,m 25 2,le 26 25,b 27 .lss 24 26] (.cond 27 .skip (.exit 0))) (.seq (.block 1 (sq [m 30 8,c1 31 165 30,m 10 31] (.seq (.drawn [m 32 7,m 33 2,m 34 9,ia 35 1 33 34,ld 36 35,m 37 8,m 38 10,ia 39 1 37 38,ld 40 39,ia 41 4 32 36,o 42 (.aN 0 41),st 3 42 40 0]) (.seq (.drawn [m 43 8,m 44 10,m 45 8,m 46 10,ia 47 1 45 46,ld 48 47,m 49 1,m 50 2,m 51 9,ia 52 1 50 51,ld 53 52,ia 54 1 49 53,ld 55 54,b 56 .add 48 55,ia 57 1 43 44,st 3 57 56 0]) (.drawn [m 58 7,m 59 2,m 60 9,ia 61 1 59 60,ld 62 61,m 63 8,m 64 10,ia 65 1 63 64,ld 66 65,ia 67 4 58 62,o 68 (.aN 1 67),st 3 68 66 0]))))) (.aI [m 28 9,bk 29 .add 28 1,m 9 29])))))) (sq [f 69 1 3,ln 70 3 69,o 71 (.raw (.makeSlice 26 70 70) 26),m 11 71] (sq [m 72 2,le 73 72,o 74 (.raw (.makeSlice 208 73 73) 208),m 12 74] (.seq (sq [mi 13 0] (.block 2 (.loop (.seq (sq [m 75 13,m 76 2,le 77 76,b 78 .lss 75 77] (.cond 78 .skip (.exit 2))) (.seq (.block 3 (sq [o 14 (.cY (.const (.int .i64 (Int.negSucc 0))))] (.seq (sq [mi 15 0] (.block 4 (.loop (.seq (sq [m 81 15,m 82 2,le 83 82,b 84 .lss 81 83] (.cond 84 .skip (.exit 4))) (.seq (.block 5 (sq [m 87 2,m 88 15,ia 89 1 87 88,ld 90 89,m 16 90] (.seq (.drawn [m 91 12,m 92 16,ia 93 1 91 92,ld 94 93,o 95 (.not 94),m 96 95,mt 96 97 14,gt 96 98 (.aY .lss 97 (k 0)),mt 96 99 98,mf 99 100 7,mf 99 101 16,gf 99 102 (.bQ 4 100 101),gf 99 103 (.aN 1 102),gf 99 104 (.ld none 103),mf 99 105 7,mf 99 106 14,gf 99 107 (.bQ 4 105 106),gf 99 108 (.aN 1 107),gf 99 109 (.ld none 108),gf 99 110 (.aY .lss 104 109),gt 96 111 (.pick 99 k1 110),pa 112 96 111]) (.cond 112 (.aI [m 113 16,m 14 113]) .skip)))) (.aI [m 85 15,bk 86 .add 85 1,m 15 86])))))) (sq [m 114 11,c1 115 165 114,m 17 115] (sq [m 116 12,m 117 14,ia 118 1 116 117,u (.raw (.store 4 118 k1) 0)] (.seq (.drawn [m 119 7,m 120 14,m 121 7,m 122 14,ia 123 4 121 122,o 124 (.aN 1 123),ld 125 124,m 126 11,m 127 17,ia 128 1 126 127,ld 129 128,(o 130 (.bU (.call (.mk (.builtin .max) #[125,129] #[3,3])) 3),none),ia 131 4 119 120,o 132 (.aN 2 131),st 3 132 130 0]) (.seq (.drawn [m 133 7,m 134 14,m 135 7,m 136 14,ia 137 4 135 136,o 138 (.aN 2 137),ld 139 138,f 140 3 3,ln 141 3 140,m 142 14,ia 143 5 141 142,o 144 (.aN 3 143),ld 145 144,b 146 .add 139 145,ia 147 4 133 134,o 148 (.aN 3 147),st 3 148 146 0]) (.aI [m 149 11,m 150 17,m 151 7,m 152 14,ia 153 4 151 152,o 154 (.aN 3 153),ld 155 154,ia 156 1 149 150,st 3 156 155 0])))))))) (.aI [m 79 13,bk 80 .add 79 1,m 13 80])))))) (sq [m 157 7,m 6 157] .ret))))))))
def vZ:List Zf:=[(.aK 6)]
def I6:aJ Tryz.prog 128 3 nN vZ:=bD [(3,3),(21,3),(69,3),(140,3)] Tryz.func128
def nV:Ze:=(sq [o 2 (.aP 2 [2] 0),o 4 (.aQ 4 [4] [z0,z0,z0,s0,s0])] (sq [l 6 2 5 2,o 5 (.aQ 5 [5,8] [z0,z0,z0,s0,s0]),ls 5 5 5 6] (sq [m 7 1,f 8 1 5,ls 5 1 8 7] (sq [l 9 5 5 5,ls 4 5 4 9] .ret))))
def y5:List Zf:=[(.jH 4 4 (some 5))]
def JU:aJ Tryz.prog 49 2 nV y5:=bD [(2,2),(4,4),(5,5),(8,5)] Tryz.func49
def nI:Ze:=(sq [o 1 (.aP 1 [1,12,24,32] 0),o 2 (.cY (.const s0))] (sq [o 10 (.aO 26 1 [s0] [(0,(1,(.const s0)))]),m 3 10] (.seq (sq [mi 4 0] (.block 0 (.loop (.seq (sq [m 11 4,f 12 3 1,ln 13 1 12,le 14 13,b 15 .lss 11 14] (.cond 15 .skip (.exit 0))) (.seq (.block 1 (sq [o 5 (.cY (.const s0))] (.seq (sq [mi 6 0] (.block 2 (.loop (.seq (sq [m 18 6,m 19 3,le 20 19,b 21 .lss 18 20] (.cond 21 .skip (.exit 2))) (.seq (.block 3 (sq [f 24 3 1,ln 25 1 24,m 26 4,ia 27 5 25 26,o 28 (.aN 1 27),o 29 (.aN 0 28),ld 30 29,m 7 30] (.block 4 (.loop (.seq (sq [m 31 7,f 32 3 1,ln 33 1 32,m 34 4,ia 35 5 33 34,o 36 (.aN 1 35),o 37 (.aN 1 36),ld 38 37,b 39 .leq 31 38] (.cond 39 .skip (.exit 4))) (.seq (.block 5 (.aI [m 42 5,o 43 (.raw (.buildSlice 26 0 #[]) 26),m 44 3,m 45 6,ia 46 1 44 45,ld 47 46,o 48 (.raw (.call (.mk (.builtin .append) #[43,47] #[26,26])) 26),m 49 7,o 50 (.aO 3 1 [z0] [(0,(1,49))]),o 51 (.raw (.call (.mk (.builtin .append) #[48,50] #[26,26])) 26),o 52 (.aO 26 1 [s0] [(0,(1,51))]),o 53 (.raw (.call (.mk (.builtin .append) #[42,52] #[68,68])) 68),m 5 53])) (.aI [m 40 7,bk 41 .add 40 1,m 7 41]))))))) (.aI [m 22 6,bk 23 .add 22 1,m 6 23])))))) (.aI [m 54 5,m 3 54])))) (.aI [m 16 4,bk 17 .add 16 1,m 4 17])))))) (sq [o 8 (.cY (.const s0))] (.seq (sq [mi 9 0] (.block 6 (.loop (.seq (sq [m 55 9,m 56 3,le 57 56,b 58 .lss 55 57] (.cond 58 .skip (.exit 6))) (.seq (.block 7 (.seq (.drawn [l 61 1 5 1,m 62 3,m 63 9,ia 64 1 62 63,ld 65 64,c2 66 134 61 65]) (.cond 66 (.aI [m 67 8,m 68 3,m 69 9,ia 70 1 68 69,ld 71 70,o 72 (.aO 26 1 [s0] [(0,(1,71))]),o 73 (.raw (.call (.mk (.builtin .append) #[67,72] #[68,68])) 68),m 8 73]) .skip))) (.aI [m 59 9,bk 60 .add 59 1,m 9 60])))))) (sq [m 74 8,m 2 74] .ret))))))
def y6:List Zf:=[(.aK 2)]
def JV:aJ Tryz.prog 84 1 nI y6:=bD [(1,1),(12,1),(24,1),(32,1)] Tryz.func84
def nW:Ze:=(sq [o 3 (.aP 3 [3] 0),o 6 (.aQ 6 [6] [z0,z0])] (.seq (.drawn [l 10 3 5 3,m 11 1,o 12 (.bQ 1 11 (k 0)),ld 13 12,m 14 2,c3 15 129 10 13 14,m 7 15]) (sq [m 16 7,m 17 7,o 18 (.build [z0,z0] [(0,(1,16)),(1,(1,17))]),o 8 (.aQ 8 [8,32,36] [z0,z0]),ls 8 2 8 18] (.seq (sq [mi 9 1] (.block 0 (.loop (.seq (sq [m 19 9,m 20 1,le 21 20,b 22 .lss 19 21] (.cond 22 .skip (.exit 0))) (.seq (.block 1 (.seq (.drawn [l 25 3 5 3,m 26 1,m 27 9,ia 28 1 26 27,ld 29 28,m 30 2,c3 31 129 25 29 30,m 7 31]) (.aI [f 32 0 8,ln 33 8 32,m 34 7,o 35 (.bU (.call (.mk (.builtin .min) #[33,34] #[3,3])) 3),f 36 1 8,ln 37 8 36,m 38 7,o 39 (.bU (.call (.mk (.builtin .max) #[37,38] #[3,3])) 3),o 40 (.build [z0,z0] [(0,(1,35)),(1,(1,39))]),ls 8 2 8 40]))) (.aI [m 23 9,bk 24 .add 23 1,m 9 24])))))) (sq [l 41 8 2 8,ls 6 2 6 41] .ret)))))
def y8:List Zf:=[(.jH 6 6 (some 2))]
def JX:aJ Tryz.prog 94 3 nW y8:=bD [(3,3),(6,6),(8,8),(32,8),(36,8)] Tryz.func94
def MU:Ze:=(sq [mi 4 0] (.seq (sq [m 5 0,bk 6 .eql 5 0] (.cond 6 (sq [mi 4 2] .ret) .skip)) (.seq (sq [m 7 0,m 8 1,b 9 .eql 7 8] (.cond 9 (sq [mi 4 1] .ret) .skip)) (sq [mi 4 0] .ret))))
def Cy:List Zf:=[(.aK 4)]
def Hg:aJ Tryz.prog 99 2 MU Cy:=bD [] Tryz.func99
def mQ:Ze:=(sq [o 3 (.aP 3 [3] 0),mi 6 0] (sq [l 10 3 5 3,m 11 1,m 12 2,c3 13 128 10 11 12,m 7 13] (sq [mi 8 0] (.seq (sq [mi 9 0] (.block 0 (.loop (.seq (sq [m 14 9,m 15 7,le 16 15,b 17 .lss 14 16] (.cond 17 .skip (.exit 0))) (.seq (.block 1 (.aI [m 20 8,m 21 7,m 22 9,ia 23 4 21 22,o 24 (.aN 3 23),ld 25 24,o 26 (.bU (.call (.mk (.builtin .max) #[20,25] #[3,3])) 3),m 8 26])) (.aI [m 18 9,bk 19 .add 18 1,m 9 19])))))) (sq [m 27 8,m 6 27] .ret)))))
def v7:List Zf:=[(.aK 6)]
def I7:aJ Tryz.prog 129 3 mQ v7:=bD [(3,3)] Tryz.func129
def mR:Ze:=(sq [o 2 (.aP 2 [2,17,24,34,41,48,55] 0),m0 4] (.seq (sq [mi 5 0] (.block 0 (.loop (.seq (sq [m 7 5,m 8 1,le 9 8,b 10 .lss 7 9] (.cond 10 .skip (.exit 0))) (.seq (.block 1 (.seq (.drawn [m 13 1,m 14 5,ia 15 1 13 14,ld 16 15,f 17 3 2,ln 18 2 17,m 19 5,ia 20 5 18 19,o 21 (.aN 1 20),o 22 (.aN 0 21),ld 23 22,f 24 3 2,ln 25 2 24,m 26 5,ia 27 5 25 26,o 28 (.aN 1 27),o 29 (.aN 1 28),ld 30 29,c3 31 50 16 23 30,o 32 (.not 31)]) (.cond 32 (sq [m0 4] .ret) .skip))) (.aI [m 11 5,bk 12 .add 11 1,m 5 12])))))) (.seq (sq [mi 6 0] (.block 2 (.loop (.seq (sq [m 33 6,f 34 4 2,ln 35 2 34,le 36 35,b 37 .lss 33 36] (.cond 37 .skip (.exit 2))) (.seq (.block 3 (.seq (.drawn [(m 40 1,none),(f 41 4 2,none),(ln 42 2 41,none),(m 43 6,none),(ia 44 3 42 43,none),(o 45 (.aN 0 44),none),(ld 46 45,none),(f 48 4 2,none),(ln 49 2 48,none),(m 50 6,none),(ia 51 3 49 50,none),(o 52 (.aN 1 51),none),(o 53 (.aN 0 52),none),(ld 54 53,none),(f 55 4 2,none),(ln 56 2 55,none),(m 57 6,none),(ia 58 3 56 57,none),(o 59 (.aN 1 58),none),(o 60 (.aN 1 59),none),(ld 61 60,none),(c2 47 135 40 46,(some true)),(c3 62 50 47 54 61,none),(o 63 (.not 62),none)]) (.cond 63 (sq [m0 4] .ret) .skip))) (.aI [m 38 6,bk 39 .add 38 1,m 6 39])))))) (sq [m1 4] .ret))))
def wA:List Zf:=[(.aK 4)]
def I8:aJ Tryz.prog 134 2 mR wA:=bD [(2,2),(17,2),(24,2),(34,2),(41,2),(48,2),(55,2)] Tryz.func134
def nU:Ze:=(sq [o 1 (.aP 1 [1] 0),mi 2 0,m0 3,mi 4 0] (.seq (sq [l 9 1 5 1,c1 10 67 9,m 5 10] (sq [m 11 5,bk 12 .neq 11 0] (.cond 12 (sq [m 13 5,mi 2 0,m0 3,m 4 13] .ret) .skip))) (sq [l 15 1 5 1,o 16 (.call 90 [15,(k 0)]),m 14 16,x 17 14 0,x 18 14 1,m 6 17,m 7 18] (.seq (sq [m 19 7,bk 20 .neq 19 0] (.cond 20 (sq [m 21 7,mi 2 0,m0 3,m 4 21] .ret) .skip)) (.seq (sq [mi 8 1] (.block 0 (.loop (.seq (sq [m 22 8,bk 23 .leq 22 3] (.cond 23 .skip (.exit 0))) (.seq (.block 1 (sq [l 26 1 5 1,m 27 8,c2 28 49 26 27,m 29 6,c2 30 103 28 29,le 31 30,bk 32 .gtr 31 0] (.cond 32 (sq [m 33 8,m 2 33,m1 3,mi 4 0] .ret) .skip))) (.aI [m 24 8,bk 25 .add 24 1,m 8 25])))))) (sq [mi 2 0,m0 3,mi 4 0] .ret))))))
def y0:List Zf:=[(.aK 2),(.aK 3),(.aK 4)]
def JR:aJ Tryz.prog 35 1 nU y0:=bD [(1,1)] Tryz.func35
def l8:Ze:=(sq [m0 4] (.seq (sq [mi 5 0] (.block 0 (.loop (.seq (sq [m 6 5,m 7 0,le 8 7,b 9 .lss 6 8] (.cond 9 .skip (.exit 0))) (.seq (.block 1 (sq [m 12 0,m 13 5,ia 14 1 12 13,ld 15 14,m 16 1,b 17 .eql 15 16] (.cond 17 (sq [m1 4] .ret) .skip))) (.aI [m 10 5,bk 11 .add 10 1,m 5 11])))))) (sq [m0 4] .ret)))
def rU:List Zf:=[(.aK 4)]
def sE:aJ Tryz.prog 40 2 l8 rU:=bD [] Tryz.func40
def nJ:Ze:=(sq [o 2 (.aP 2 [2] 0),o 4 (.cY (.const s0)),mi 5 0] (.seq (sq [m 7 1,bk 8 .neq 7 0] (.cond 8 (sq [m 9 1,o 4 (.cY (.const s0)),m 5 9] .ret) .skip)) (sq [l 10 2 5 2,c1 11 84 10,m 6 11] (.seq (sq [m 12 6,le 13 12,bk 14 .eql 13 0] (.cond 14 (sq [o 4 (.cY (.const s0)),mi 5 9] .ret) .skip)) (sq [m 15 6,m 4 15,mi 5 0] .ret)))))
def y7:List Zf:=[(.aK 4),(.aK 5)]
def JW:aJ Tryz.prog 90 2 nJ y7:=bD [(2,2)] Tryz.func90
def nL:Ze:=(sq [o 3 (.aP 3 [3] 0),mi 6 0] (sq [mi 7 0] (.seq (sq [mi 8 0] (.block 0 (.loop (.seq (sq [m 9 8,m 10 1,le 11 10,b 12 .lss 9 11] (.cond 12 .skip (.exit 0))) (.seq (.block 1 (.seq (.drawn [l 15 3 5 3,m 16 1,m 17 8,ia 18 1 16 17,ld 19 18,m 20 2,c3 21 146 15 19 20]) (.cond 21 (.aI [m 22 7,bk 23 .add 22 1,m 7 23]) .skip))) (.aI [m 13 8,bk 14 .add 13 1,m 8 14])))))) (sq [m 24 7,m 25 1,le 26 25,c2 27 99 24 26,m 6 27] .ret))))
def vX:List Zf:=[(.aK 6)]
def JZ:aJ Tryz.prog 100 3 nL vX:=bD [(3,3)] Tryz.func100
def mS:Ze:=(sq [mi 4 0] (sq [mi 5 0] (.seq (sq [mi 6 0] (.block 0 (.loop (.seq (sq [m 7 6,m 8 1,le 9 8,b 10 .lss 7 9] (.cond 10 .skip (.exit 0))) (.seq (.block 1 (.aI [m 13 5,m 14 0,m 15 1,m 16 6,ia 17 1 15 16,ld 18 17,ia 19 1 14 18,ld 20 19,b 21 .add 13 20,m 5 21])) (.aI [m 11 6,bk 12 .add 11 1,m 6 12])))))) (sq [m 22 5,m 4 22] .ret))))
def wB:List Zf:=[(.aK 4)]
def I9:aJ Tryz.prog 135 2 mS wB:=bD [] Tryz.func135
def mU:Ze:=(sq [mi 2 0] (sq [mi 3 0] (.seq (sq [mi 4 1] (.block 0 (.loop (.seq (sq [m 5 4,m 6 0,le 7 6,b 8 .lss 5 7] (.cond 8 .skip (.exit 0))) (.seq (.block 1 (.seq (.drawn [m 11 0,m 12 4,ia 13 1 11 12,ld 14 13,m 15 0,m 16 3,ia 17 1 15 16,ld 18 17,b 19 .lss 14 18]) (.cond 19 (.aI [m 20 4,m 3 20]) .skip))) (.aI [m 9 4,bk 10 .add 9 1,m 4 10])))))) (sq [m 21 3,m 2 21] .ret))))
def wD:List Zf:=[(.aK 2)]
def JB:aJ Tryz.prog 165 1 mU wD:=bD [] Tryz.func165
def oB:Ze:=(sq [o 1 (.aP 1 [1] 0),mi 2 0,mi 3 0] (.seq (sq [l 7 1 5 1,c1 8 67 7,m 4 8] (sq [m 9 4,bk 10 .neq 9 0] (.cond 10 (sq [m 11 4,mi 2 0,m 3 11] .ret) .skip))) (sq [l 13 1 5 1,o 14 (.call 90 [13,(k 0)]),m 12 14,x 15 12 0,x 16 12 1,m 5 15,m 6 16] (.seq (sq [m 17 6,bk 18 .neq 17 0] (.cond 18 (sq [m 19 6,mi 2 0,m 3 19] .ret) .skip)) (sq [l 20 1 5 1,m 21 5,c2 22 103 20 21,le 23 22,m 2 23,mi 3 0] .ret)))))
def yY:List Zf:=[(.aK 2),(.aK 3)]
def JP:aJ Tryz.prog 31 1 oB yY:=bD [(1,1)] Tryz.func31
def mT:Ze:=(sq [o 3 (.aP 3 [3,18] 0),m0 6] (.seq (.drawn [l 7 3 5 3,m 8 1,m 9 2,c3 10 98 7 8 9,le 11 10,bk 12 .eql 11 0,m 13 12,gt 13 14 (.dA 3 (some 5) 3),mt 13 15 1,mt 13 16 2,gt 13 18 (.aU 2 3),gt 13 19 (.dA 3 none 18),(gt 13 17 (.call 129 [14,15,16]),(some false)),gt 13 20 (.aY .leq 17 19),pa 21 13 20,m 6 21]) .ret))
def wC:List Zf:=[(.aK 6)]
def JA:aJ Tryz.prog 146 3 mT wC:=bD [(3,3),(18,3)] Tryz.func146
end
section
variable{a b:Bool}
def N4.A0(n:N4):List Int:=[n.a,n.b,n.c,n.d]
section
variable{P:aX}[Tz P]{H:Hp}{d:Option Nat}{next:aM->Hp->Prop}{σ:aM}{x y:Operand}{ty t2:TypeId}{v:Value}
def JK(d:Nat)(Q:Bool->Bool->Hp->Prop)(g:Bool)(H:Hp)(e:Q (a == b) g H):bL P.toPQ (Op.equalIn (d+1) 4 (vb a) (vb b)) Q g H:=by simp only[Op.equalIn,Zg,Zw (bI (P:=P) F6),Zj];exact e
def pR(Q:Bool->Bool->Hp->Prop)(g:Bool)(H:Hp)(e:Q (a == b) g H):bL P.toPQ (Op.equalIn (9999+1) 4 (vb a) (vb b)) Q g H:=JK 9999 Q g H e
def ET(e:σ.get x=some (vb a))(f:σ.get y=some (vb b))(h:next (σ.set d (vb (a == b))) H):(bE.bU (.binOp .eql 4 x y t2) ty).m P d next σ H:=by
 refine Vd (by simp[Op.operands,e,f]) ?_ h;have:execOp (λx=>(σ.get x).getD undef) (aR (.binOp .eql 4 x y t2) ty)=(do let v <-(do eqGuard .eql 4 x y (vb a) (vb b);binOp .eql 4 (vb a) (vb b));pure (.value v)):=by simp[execOp,aR,e,f]
 rw[this];refine Uq λQ g H i=>?_;simp only[eqGuard,Zg,Zj];exact Zg.2 (pR _ _ _ i)
def EU(e:σ.get x=some (vb a))(f:σ.get y=some (vb b))(h:next (σ.set d (vb (a != b))) H):(bE.bU (.binOp .neq 4 x y t2) ty).m P d next σ H:=by
 refine Vd (by simp[Op.operands,e,f]) ?_ h;have:execOp (λx=>(σ.get x).getD undef) (aR (.binOp .neq 4 x y t2) ty)=(do let v <-(do eqGuard .neq 4 x y (vb a) (vb b);binOp .neq 4 (vb a) (vb b));pure (.value v)):=by simp[execOp,aR,e,f]
 rw[this];refine Uq λQ g H i=>?_;simp only[eqGuard,Zg,Zj];exact Zg.2 (pR _ _ _ i)
end
def gB(k n:Nat):Int:=if k=0 then 2 else if k=n then 1 else 0
end
section
open Go.Z
def oS:Ze:=(sq [o 1 (.aP 1 [1] 0),m0 2] (.seq (sq [l 13 1 5 1,c1 14 17 13] (.cond 14 (sq [c0 15 18,m 2 15] .ret) .skip)) (sq [l 17 1 5 1,c1 18 30 17,m 16 18,x 19 16 0,x 20 16 1,m 3 19,m 4 20] (sq [l 22 1 5 1,c1 23 31 22,m 21 23,x 24 21 0,x 25 21 1,m 5 24,m 6 25] (.seq (sq [m 26 3,m 27 5,b 28 .neq 26 27,m 29 28,mf 29 30 4,mf 29 31 6,gf 29 32 (.aY .neq 30 31),po 33 29 32] (.cond 33 (sq [m0 2] .ret) .skip)) (sq [l 35 1 5 1,c1 36 32 35,m 34 36,x 37 34 0,x 38 34 1,x 39 34 2,x 40 34 3,o 8 (.aQ 8 [8] [z0,z0]),m 7 37,ls 8 2 8 38,m 9 39,m 4 40] (sq [l 42 1 5 1,c1 43 33 42,m 41 43,x 44 41 0,x 45 41 1,x 46 41 2,x 47 41 3,o 11 (.aQ 11 [11] [z0,z0]),m 10 44,ls 11 2 11 45,m 12 46,m 6 47] (.seq (sq [m 48 7,m 49 10,c2 50 23 48 49,o 51 (.not 50),m 52 51,gf 52 53 (.dA 8 (some 2) 8),gf 52 54 (.dA 11 (some 2) 11),gf 52 55 (.bU (.binOp .neq 36 53 54 36) 4),po 56 52 55,m 57 56,mf 57 58 9,mf 57 59 12,gf 57 60 (.bU (.binOp .neq 4 58 59 4) 4),po 61 57 60,m 62 61,mf 62 63 4,mf 62 64 6,gf 62 65 (.aY .neq 63 64),po 66 62 65] (.cond 66 (sq [m0 2] .ret) .skip)) (sq [l 68 1 5 1,c1 69 34 68,m 67 69,x 70 67 0,x 71 67 1,x 72 67 2,m 3 70,m 9 71,m 4 72] (sq [l 74 1 5 1,c1 75 35 74,m 73 75,x 76 73 0,x 77 73 1,x 78 73 2,m 5 76,m 12 77,m 6 78] (sq [m 79 3,m 80 5,b 81 .eql 79 80,m 82 81,mt 82 83 9,mt 82 84 12,gt 82 85 (.bU (.binOp .eql 4 83 84 4) 4),pa 86 82 85,m 87 86,mt 87 88 4,mt 87 89 6,gt 87 90 (.aY .eql 88 89),pa 91 87 90,m 92 91,gt 92 93 (.call 18 []),pa 94 92 93,m 2 94] .ret)))))))))))
def mH:List Zf:=[(.aK 2)]
def R6:aJ Tryz.prog 4 1 oS mH:=bD [(1,1),(8,8),(11,11)] Tryz.func4
end
variable{α:Type}{r:Nat}{E:TypeId}
section
variable{P:aX}[Tz P][Loud P]{H:Hp}
def RY(k n:Nat):LL.Zc P 99 #[vi k,vi n] H λv e=>H=e/\v=vi (gB k n):=by
 refine aJ.m (bG Hg) (args:=[vi k,vi n]) rfl ?_;unfold MU;refine OJ (λf=>?_) (λf=>?_)
 ·refine Y ?_;exact⟨rfl,by rw[gB,iF O];rfl⟩
 refine OJ (λg=>?_) (λg=>?_)
 ·refine Y ?_;exact⟨rfl,by rw[gB,aT O,iF O];rfl⟩
 refine Y ?_;exact⟨rfl,by rw[gB,aT O,aT O];rfl⟩
end
def CH[Enc α]{H:Hp}{l:List α}(f:H r=none):dD H (H.ins r (.cells (Zb l).toArray E)) E (.slice (some ⟨r,0,none⟩) l.length l.length) l (some r):=
 ⟨⟨VH l,.inr ⟨r,l.length,[],rfl,rfl,by rw[qAf];exact Hp.aG _ _ _,by rw[qAf];exact VH l,dO _⟩⟩,λg e=>by obtain rfl:=iO e;exact f⟩
def yU[Enc α]{H:Hp}(e:H r=none):dD H (H.ins r (.cells #[] E)) E (.slice (some ⟨r,0,none⟩) 0 0) ([]:List α) (some r):=CH (l:=([]:List α)) e
