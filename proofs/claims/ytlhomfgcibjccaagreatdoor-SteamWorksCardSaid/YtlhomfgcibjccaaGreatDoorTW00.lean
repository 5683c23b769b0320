import Derived.Test.YtlhomfgcibjccaaGreatDoorP39
set_option linter.all false
section
namespace Go.LL
section
variable{P:aX}{d:Option Nat}{r:List NI}{op:bE}{Q:aM->Hp->Prop}{next:aM->Hp->Prop}{σ:aM}{H:Hp}{x y z:Operand}{v:Value}
variable{l:List (NI×Option Bool)}
def yO{f:Option Bool}{t:Nat}{b:Bool}(g:P.still H.gh=false)(e:σ.env t=some undef)(h:ZT P l Q (σ.fB d) H):ZT P ((⟨some (t,b),d,op⟩,f) :: l) Q σ H:=by cases b<;>(simp only[ZT,e,undef];exact⟨g,h⟩)
variable{Qe:Ex->aM->Hp->Prop}{a b c:Ze}
end
end Go.LL
end
open Go Go.LL
namespace Go.Proofs
section
open Go.Z
def kS:Ze:=(sq [o 3 (.aP 3 [3] 0),o 6 (.cY (.const s0)),mi 7 0] (.seq (sq [l 9 3 5 3,m 10 1,m 11 2,c3 12 127 9 10 11,m 8 12] (sq [m 13 8,bk 14 .neq 13 0] (.cond 14 (sq [m 15 8,o 6 (.cY (.const s0)),m 7 15] .ret) .skip))) (sq [l 16 3 5 3,m 17 1,m 18 2,c3 19 98 16 17 18,m 6 19,mi 7 0] .ret)))
def nU:List Zf:=[(.aK 6),(.aK 7)]
def sK:aJ Tryz.prog 72 3 kS nU:=bD [(3,3)] Tryz.func72
def kN:Ze:=(sq [o 3 (.aP 3 [3] 0),mi 6 0] (.seq (sq [l 9 3 5 3,c1 10 67 9,m 7 10] (sq [m 11 7,bk 12 .neq 11 0] (.cond 12 (sq [m 13 7,m 6 13] .ret) .skip))) (.seq (sq [l 14 3 5 3,m 15 1,c2 16 133 14 15,m 8 16] (sq [m 17 8,bk 18 .neq 17 0] (.cond 18 (sq [m 19 8,m 6 19] .ret) .skip))) (sq [l 20 3 5 3,m 21 2,c2 22 79 20 21,m 6 22] .ret))))
def nL:List Zf:=[(.aK 6)]
def pP:aJ Tryz.prog 127 3 kN nL:=bD [(3,3)] Tryz.func127
def kM:Ze:=(sq [o 3 (.aP 3 [3,30] 0),o 6 (.cY (.const s0))] (sq [l 10 3 5 3,m 11 1,m 12 2,c3 13 128 10 11 12,m 7 13] (sq [o 8 (.cY (.const s0))] (.seq (sq [mi 9 0] (.block 0 (.loop (.seq (sq [m 14 9,m 15 7,le 16 15,b 17 .lss 14 16] (.cond 17 .skip (.exit 0))) (.seq (.block 1 (.seq (.drawn [m 20 7,m 21 9,ia 22 4 20 21,o 23 (.aN 3 22),ld 24 23,m 25 7,m 26 9,ia 27 4 25 26,o 28 (.aN 1 27),ld 29 28,f 30 3 3,ln 31 3 30,m 32 9,ia 33 5 31 32,o 34 (.aN 4 33),ld 35 34,b 36 .add 29 35,b 37 .gtr 24 36]) (.cond 37 (.aI [m 38 8,m 39 9,o 40 (.aO 3 1 [z0] [(0,(1,39))]),o 41 (.raw (.call (.mk (.builtin .append) #[38,40] #[26,26])) 26),m 8 41]) .skip))) (.aI [m 18 9,bk 19 .add 18 1,m 9 19])))))) (sq [m 42 8,m 6 42] .ret)))))
def nK:List Zf:=[(.aK 6)]
def qJ:aJ Tryz.prog 98 3 kM nK:=bD [(3,3),(30,3)] Tryz.func98
def kO:Ze:=(sq [o 3 (.aP 3 [3,21,69,140] 0),o 6 (.cY (.const s0))] (sq [m 18 2,le 19 18,o 20 (.raw (.makeSlice 61 19 19) 61),m 7 20] (sq [f 21 0 3,ln 22 3 21,o 23 (.raw (.makeSlice 26 22 22) 26),m 8 23] (.seq (sq [mi 9 0] (.block 0 (.loop (.seq (sq [m 24 9,m 25 2,le 26 25,b 27 .lss 24 26] (.cond 27 .skip (.exit 0))) (.seq (.block 1 (sq [m 30 8,c1 31 165 30,m 10 31] (.seq (.drawn [m 32 7,m 33 2,m 34 9,ia 35 1 33 34,ld 36 35,m 37 8,m 38 10,ia 39 1 37 38,ld 40 39,ia 41 4 32 36,o 42 (.aN 0 41),st 3 42 40 0]) (.seq (.drawn [m 43 8,m 44 10,m 45 8,m 46 10,ia 47 1 45 46,ld 48 47,m 49 1,m 50 2,m 51 9,ia 52 1 50 51,ld 53 52,ia 54 1 49 53,ld 55 54,b 56 .add 48 55,ia 57 1 43 44,st 3 57 56 0]) (.drawn [m 58 7,m 59 2,m 60 9,ia 61 1 59 60,ld 62 61,m 63 8,m 64 10,ia 65 1 63 64,ld 66 65,ia 67 4 58 62,o 68 (.aN 1 67),st 3 68 66 0]))))) (.aI [m 28 9,bk 29 .add 28 1,m 9 29])))))) (sq [f 69 1 3,ln 70 3 69,o 71 (.raw (.makeSlice 26 70 70) 26),m 11 71] (sq [m 72 2,le 73 72,o 74 (.raw (.makeSlice 208 73 73) 208),m 12 74] (.seq (sq [mi 13 0] (.block 2 (.loop (.seq (sq [m 75 13,m 76 2,le 77 76,b 78 .lss 75 77] (.cond 78 .skip (.exit 2))) (.seq (.block 3 (sq [o 14 (.cY (.const (.int .i64 (Int.negSucc 0))))] (.seq (sq [mi 15 0] (.block 4 (.loop (.seq (sq [m 81 15,m 82 2,le 83 82,b 84 .lss 81 83] (.cond 84 .skip (.exit 4))) (.seq (.block 5 (sq [m 87 2,m 88 15,ia 89 1 87 88,ld 90 89,m 16 90] (.seq (.drawn [m 91 12,m 92 16,ia 93 1 91 92,ld 94 93,o 95 (.not 94),m 96 95,mt 96 97 14,gt 96 98 (.aY .lss 97 (k 0)),mt 96 99 98,mf 99 100 7,mf 99 101 16,gf 99 102 (.bQ 4 100 101),gf 99 103 (.aN 1 102),gf 99 104 (.ld none 103),mf 99 105 7,mf 99 106 14,gf 99 107 (.bQ 4 105 106),gf 99 108 (.aN 1 107),gf 99 109 (.ld none 108),gf 99 110 (.aY .lss 104 109),gt 96 111 (.pick 99 k1 110),pa 112 96 111]) (.cond 112 (.aI [m 113 16,m 14 113]) .skip)))) (.aI [m 85 15,bk 86 .add 85 1,m 15 86])))))) (sq [m 114 11,c1 115 165 114,m 17 115] (sq [m 116 12,m 117 14,ia 118 1 116 117,u (.raw (.store 4 118 k1) 0)] (.seq (.drawn [m 119 7,m 120 14,m 121 7,m 122 14,ia 123 4 121 122,o 124 (.aN 1 123),ld 125 124,m 126 11,m 127 17,ia 128 1 126 127,ld 129 128,(o 130 (.bU (.call (.mk (.builtin .max) #[125,129] #[3,3])) 3),none),ia 131 4 119 120,o 132 (.aN 2 131),st 3 132 130 0]) (.seq (.drawn [m 133 7,m 134 14,m 135 7,m 136 14,ia 137 4 135 136,o 138 (.aN 2 137),ld 139 138,f 140 3 3,ln 141 3 140,m 142 14,ia 143 5 141 142,o 144 (.aN 3 143),ld 145 144,b 146 .add 139 145,ia 147 4 133 134,o 148 (.aN 3 147),st 3 148 146 0]) (.aI [m 149 11,m 150 17,m 151 7,m 152 14,ia 153 4 151 152,o 154 (.aN 3 153),ld 155 154,ia 156 1 149 150,st 3 156 155 0])))))))) (.aI [m 79 13,bk 80 .add 79 1,m 13 80])))))) (sq [m 157 7,m 6 157] .ret))))))))
def nM:List Zf:=[(.aK 6)]
def pQ:aJ Tryz.prog 128 3 kO nM:=bD [(3,3),(21,3),(69,3),(140,3)] Tryz.func128
def kF:Ze:=(sq [o 2 (.aP 2 [2,8] 0),mi 4 0] (.seq (sq [m 6 1,le 7 6,f 8 3 2,ln 9 2 8,le 10 9,b 11 .neq 7 10] (.cond 11 (sq [mi 4 2] .ret) .skip)) (.seq (sq [mi 5 0] (.block 0 (.loop (.seq (sq [m 12 5,m 13 1,le 14 13,b 15 .lss 12 14] (.cond 15 .skip (.exit 0))) (.seq (.block 1 (sq [m 18 1,m 19 5,ia 20 1 18 19,ld 21 20,o 22 (.call 50 [21,(k 1),(k 20)]),o 23 (.not 22)] (.cond 23 (sq [mi 4 1] .ret) .skip))) (.aI [m 16 5,bk 17 .add 16 1,m 5 17])))))) (sq [mi 4 0] .ret))))
def mQ:List Zf:=[(.aK 4)]
def qL:aJ Tryz.prog 133 2 kF mQ:=bD [(2,2),(8,2)] Tryz.func133
def k8:Ze:=(sq [o 3 (.aP 3 [3] 0),mi 6 0,mi 7 0] (.seq (sq [l 9 3 5 3,m 10 1,m 11 2,c3 12 127 9 10 11,m 8 12] (sq [m 13 8,bk 14 .neq 13 0] (.cond 14 (sq [m 15 8,mi 6 0,m 7 15] .ret) .skip))) (sq [l 16 3 5 3,m 17 1,m 18 2,c3 19 129 16 17 18,m 6 19,mi 7 0] .ret)))
def nH:List Zf:=[(.aK 6),(.aK 7)]
def sL:aJ Tryz.prog 74 3 k8 nH:=bD [(3,3)] Tryz.func74
def kE:Ze:=(sq [o 2 (.aP 2 [2,8] 0),mi 4 0] (.seq (sq [m 6 1,le 7 6,f 8 3 2,ln 9 2 8,le 10 9,b 11 .neq 7 10] (.cond 11 (sq [mi 4 2] .ret) .skip)) (.seq (sq [mi 5 0] (.block 0 (.loop (.seq (sq [m 12 5,m 13 1,le 14 13,b 15 .lss 12 14] (.cond 15 .skip (.exit 0))) (.seq (.block 1 (.seq (.seq (.drawn [l 18 2 5 2,m 19 1,m 20 5,ia 21 1 19 20,ld 22 21,c2 23 89 18 22,o 24 (.not 23)]) (.cond 24 (sq [mi 4 6] .ret) .skip)) (.seq (.drawn [m 25 1,m 26 5,o 27 (.bU (.slice 26 25 none (some 26) none) 26),m 28 1,m 29 5,ia 30 1 28 29,ld 31 30,c2 32 40 27 31]) (.cond 32 (sq [mi 4 5] .ret) .skip)))) (.aI [m 16 5,bk 17 .add 16 1,m 5 17])))))) (sq [mi 4 0] .ret))))
def nJ:List Zf:=[(.aK 4)]
def rG:aJ Tryz.prog 79 2 kE nJ:=bD [(2,2),(8,2)] Tryz.func79
def kL:Ze:=(sq [o 2 (.aP 2 [2,6] 0),m0 4] (sq [m 5 1,f 6 3 2,ln 7 2 6,le 8 7,bk 9 .sub 8 1,o 10 (.call 50 [5,(k 0),9]),m 4 10] .ret))
def nW:List Zf:=[(.aK 4)]
def qI:aJ Tryz.prog 89 2 kL nW:=bD [(2,2),(6,2)] Tryz.func89
def kP:Ze:=(sq [o 3 (.aP 3 [3] 0),mi 6 0] (sq [l 10 3 5 3,m 11 1,m 12 2,c3 13 128 10 11 12,m 7 13] (sq [mi 8 0] (.seq (sq [mi 9 0] (.block 0 (.loop (.seq (sq [m 14 9,m 15 7,le 16 15,b 17 .lss 14 16] (.cond 17 .skip (.exit 0))) (.seq (.block 1 (.aI [m 20 8,m 21 7,m 22 9,ia 23 4 21 22,o 24 (.aN 3 23),ld 25 24,o 26 (.bU (.call (.mk (.builtin .max) #[20,25] #[3,3])) 3),m 8 26])) (.aI [m 18 9,bk 19 .add 18 1,m 9 19])))))) (sq [m 27 8,m 6 27] .ret)))))
def nN:List Zf:=[(.aK 6)]
def qK:aJ Tryz.prog 129 3 kP nN:=bD [(3,3)] Tryz.func129
def jT:Ze:=(sq [o 2 (.aP 2 [2,17,24,34,41,48,55] 0),m0 4] (.seq (sq [mi 5 0] (.block 0 (.loop (.seq (sq [m 7 5,m 8 1,le 9 8,b 10 .lss 7 9] (.cond 10 .skip (.exit 0))) (.seq (.block 1 (.seq (.drawn [m 13 1,m 14 5,ia 15 1 13 14,ld 16 15,f 17 3 2,ln 18 2 17,m 19 5,ia 20 5 18 19,o 21 (.aN 1 20),o 22 (.aN 0 21),ld 23 22,f 24 3 2,ln 25 2 24,m 26 5,ia 27 5 25 26,o 28 (.aN 1 27),o 29 (.aN 1 28),ld 30 29,c3 31 50 16 23 30,o 32 (.not 31)]) (.cond 32 (sq [m0 4] .ret) .skip))) (.aI [m 11 5,bk 12 .add 11 1,m 5 12])))))) (.seq (sq [mi 6 0] (.block 2 (.loop (.seq (sq [m 33 6,f 34 4 2,ln 35 2 34,le 36 35,b 37 .lss 33 36] (.cond 37 .skip (.exit 2))) (.seq (.block 3 (.seq (.drawn [(m 40 1,none),(f 41 4 2,none),(ln 42 2 41,none),(m 43 6,none),(ia 44 3 42 43,none),(o 45 (.aN 0 44),none),(ld 46 45,none),(f 48 4 2,none),(ln 49 2 48,none),(m 50 6,none),(ia 51 3 49 50,none),(o 52 (.aN 1 51),none),(o 53 (.aN 0 52),none),(ld 54 53,none),(f 55 4 2,none),(ln 56 2 55,none),(m 57 6,none),(ia 58 3 56 57,none),(o 59 (.aN 1 58),none),(o 60 (.aN 1 59),none),(ld 61 60,none),(c2 47 135 40 46,(some true)),(c3 62 50 47 54 61,none),(o 63 (.not 62),none)]) (.cond 63 (sq [m0 4] .ret) .skip))) (.aI [m 38 6,bk 39 .add 38 1,m 6 39])))))) (sq [m1 4] .ret))))
def mR:List Zf:=[(.aK 4)]
def qM:aJ Tryz.prog 134 2 jT mR:=bD [(2,2),(17,2),(24,2),(34,2),(41,2),(48,2),(55,2)] Tryz.func134
def l8:Ze:=(sq [m0 4] (.seq (sq [mi 5 0] (.block 0 (.loop (.seq (sq [m 6 5,m 7 0,le 8 7,b 9 .lss 6 8] (.cond 9 .skip (.exit 0))) (.seq (.block 1 (sq [m 12 0,m 13 5,ia 14 1 12 13,ld 15 14,m 16 1,b 17 .eql 15 16] (.cond 17 (sq [m1 4] .ret) .skip))) (.aI [m 10 5,bk 11 .add 10 1,m 5 11])))))) (sq [m0 4] .ret)))
def rU:List Zf:=[(.aK 4)]
def sE:aJ Tryz.prog 40 2 l8 rU:=bD [] Tryz.func40
def kZ:Ze:=(sq [o 3 (.aP 3 [3] 0),o 6 (.cY (.const s0)),mi 7 0] (.seq (sq [l 9 3 5 3,m 10 1,m 11 2,c3 12 127 9 10 11,m 8 12] (sq [m 13 8,bk 14 .neq 13 0] (.cond 14 (sq [m 15 8,o 6 (.cY (.const s0)),m 7 15] .ret) .skip))) (sq [l 16 3 5 3,m 17 1,m 18 2,c3 19 128 16 17 18,m 6 19,mi 7 0] .ret)))
def oC:List Zf:=[(.aK 6),(.aK 7)]
def sJ:aJ Tryz.prog 70 3 kZ oC:=bD [(3,3)] Tryz.func70
def k9:Ze:=(sq [o 2 (.aP 2 [2,29] 0),m0 4,mi 5 0] (.seq (sq [l 13 2 5 2,c1 14 71 13,m 6 14] (sq [m 15 6,bk 16 .neq 15 0] (.cond 16 (sq [m 17 6,m0 4,m 5 17] .ret) .skip))) (sq [l 18 2 5 2,o 19 (.build [z0,z0,z0,s0,s0] [(0,(5,18))]),o 7 (.aQ 7 [7] [z0,z0,z0,s0,s0]),ls 7 5 7 19] (.seq (sq [l 20 7 5 7,m 21 1,c2 22 130 20 21,m 8 22] (sq [m 23 8,bk 24 .neq 23 0] (.cond 24 (sq [m 25 8,m0 4,m 5 25] .ret) .skip))) (sq [m 26 1,c1 27 131 26,o 9 (.aQ 9 [9,39] [z0,z0,z0,z0]),ls 9 4 9 27] (sq [l 28 9 4 9,o 10 (.aQ 10 [10,49] [z0,z0,z0,z0]),ls 10 4 10 28] (.seq (sq [f 29 3 2,ln 30 2 29,le 31 30,mi 32 0] (.block 0 (.loop (sq [b 33 .lss 32 31] (.seq (.cond 33 .skip (.exit 0)) (.seq (.block 1 (.seq (.aI [m 34 32,ia 35 5 30 32,lm 36 5 35,o 12 (.aQ 12 [12,41,42,45,46] [(.string (.mk #[])),z0,z0,z0,z0]),m 11 34,ls 12 5 12 36]) (.drawn [m 37 11,m 38 11,o 39 (.fC 1 4 9 38),ln 40 9 39,f 41 1 12,f 42 0 41,ln 43 12 42,(o 44 (.bU (.call (.mk (.builtin .max) #[40,43] #[3,3])) 3),none),f 45 1 12,f 46 1 45,ln 47 12 46,(o 48 (.bU (.call (.mk (.builtin .min) #[44,47] #[3,3])) 3),none),o 49 (.fC 1 4 10 37),ls 10 1 49 48]))) (.aI [bk 50 .add 32 1,m 32 50]))))))) (sq [l 51 10 4 10,l 52 9 4 9,o 53 (.bU (.binOp .eql 105 51 52 105) 4),m 54 53,gt 54 55 (.dA 7 (some 5) 7),gt 54 56 (.dA 9 (some 4) 9),gt 54 57 (.call 132 [55,56]),pa 58 54 57,m 4 58,mi 5 0] .ret))))))))
def nV:List Zf:=[(.aK 4),(.aK 5)]
def sN:aJ Tryz.prog 75 2 k9 nV:=bD [(2,2),(7,7),(9,9),(10,10),(12,12),(29,2),(39,9),(41,12),(42,12),(45,12),(46,12),(49,10)] Tryz.func75
def jU:Ze:=(sq [mi 4 0] (sq [mi 5 0] (.seq (sq [mi 6 0] (.block 0 (.loop (.seq (sq [m 7 6,m 8 1,le 9 8,b 10 .lss 7 9] (.cond 10 .skip (.exit 0))) (.seq (.block 1 (.aI [m 13 5,m 14 0,m 15 1,m 16 6,ia 17 1 15 16,ld 18 17,ia 19 1 14 18,ld 20 19,b 21 .add 13 20,m 5 21])) (.aI [m 11 6,bk 12 .add 11 1,m 6 12])))))) (sq [m 22 5,m 4 22] .ret))))
def mS:List Zf:=[(.aK 4)]
def pR:aJ Tryz.prog 135 2 jU mS:=bD [] Tryz.func135
def jG:Ze:=(sq [mi 2 0] (sq [mi 3 0] (.seq (sq [mi 4 1] (.block 0 (.loop (.seq (sq [m 5 4,m 6 0,le 7 6,b 8 .lss 5 7] (.cond 8 .skip (.exit 0))) (.seq (.block 1 (.seq (.drawn [m 11 0,m 12 4,ia 13 1 11 12,ld 14 13,m 15 0,m 16 3,ia 17 1 15 16,ld 18 17,b 19 .lss 14 18]) (.cond 19 (.aI [m 20 4,m 3 20]) .skip))) (.aI [m 9 4,bk 10 .add 9 1,m 4 10])))))) (sq [m 21 3,m 2 21] .ret))))
def mT:List Zf:=[(.aK 2)]
def pS:aJ Tryz.prog 165 1 jG mT:=bD [] Tryz.func165
def kT:Ze:=(sq [o 2 (.aP 2 [2] 0),m0 4,mi 5 0] (.seq (sq [l 8 2 5 2,c1 9 67 8,m 6 9] (sq [m 10 6,bk 11 .neq 10 0] (.cond 11 (sq [m 12 6,m0 4,m 5 12] .ret) .skip))) (.seq (sq [l 13 2 5 2,m 14 1,c2 15 133 13 14,m 7 15] (sq [m 16 7,bk 17 .neq 16 0] (.cond 17 (sq [m 18 7,m0 4,m 5 18] .ret) .skip))) (sq [l 19 2 5 2,m 20 1,c2 21 134 19 20,m 4 21,mi 5 0] .ret))))
def nI:List Zf:=[(.aK 4),(.aK 5)]
def rE:aJ Tryz.prog 76 2 kT nI:=bD [(2,2)] Tryz.func76
end
section
variable{a b:Bool}
def pW:CY Tryz.prog 105=false:=U
section
variable{P:aX}[Tz P]{H:Hp}{d:Option Nat}{next:aM->Hp->Prop}{σ:aM}{x y:Operand}{ty t2:TypeId}{v:Value}
def pV(d:Nat)(Q:Bool->Bool->Hp->Prop)(g:Bool)(H:Hp)(e:Q (a == b) g H):bL P.toPQ (Op.equalIn (d+1) 4 (vb a) (vb b)) Q g H:=by simp only[Op.equalIn,Zg,Zw (bI (P:=P) F6),Zj];exact e
def pU{a b:Bool}(Q:Bool->Bool->Hp->Prop)(g:Bool)(H:Hp)(e:Q (a == b) g H):bL P.toPQ (Op.equalIn (9999+1) 4 (vb a) (vb b)) Q g H:=pV 9999 Q g H e
def pY(e:σ.get x=some (vb a))(f:σ.get y=some (vb b))(h:next (σ.set d (vb (a == b))) H):(bE.bU (.binOp .eql 4 x y t2) ty).m P d next σ H:=by
 refine Vd (by simp[Op.operands,e,f]) ?_ h;have:execOp (λx=>(σ.get x).getD undef) (aR (.binOp .eql 4 x y t2) ty)=(do let v <-(do eqGuard .eql 4 x y (vb a) (vb b);binOp .eql 4 (vb a) (vb b));pure (.value v)):=by simp[execOp,aR,e,f]
 rw[this];refine Uq λQ g H i=>?_;simp only[eqGuard,Zg,Zj];exact Zg.2 (pU _ _ _ i)
end
end
open Go.Z
def kR:Ze:=(sq [o 3 (.aP 3 [3] 0),m0 6] (.seq (sq [l 17 3 5 3,c1 18 17 17,m 19 18,mf 19 20 1,gf 19 21 (.len 20),gf 19 22 (.aY .gtr 21 (k 20)),po 23 19 22,m 24 23,mf 24 25 2,gf 24 26 (.len 25),gf 24 27 (.aY .gtr 26 (k 20)),po 28 24 27] (.cond 28 (sq [c0 29 18,m 6 29] .ret) .skip)) (sq [l 31 3 5 3,m 32 1,m 33 2,c3 34 45 31 32 33,m 30 34,x 35 30 0,x 36 30 1,m 7 35,m 8 36] (sq [l 38 3 5 3,m 39 1,m 40 2,c3 41 70 38 39 40,m 37 41,x 42 37 0,x 43 37 1,m 9 42,m 10 43] (.seq (.seq (.drawn [m 44 7,m 45 9,c2 46 52 44 45,o 47 (.not 46),m 48 47,mf 48 49 8,mf 48 50 10,gf 48 51 (.aY .neq 49 50),po 52 48 51,m 53 52,gf 53 54 (.dA 3 (some 5) 3),gf 53 56 (.dA 3 (some 5) 3),(gf 53 55 (.call 71 [54]),(some false)),gf 53 57 (.call 67 [56]),gf 53 58 (.aY .neq 55 57),po 59 53 58]) (.cond 59 (sq [m0 6] .ret) .skip)) (sq [l 61 3 5 3,m 62 1,m 63 2,c3 64 46 61 62 63,m 60 64,x 65 60 0,x 66 60 1,m 11 65,m 8 66] (sq [l 68 3 5 3,m 69 1,m 70 2,c3 71 72 68 69 70,m 67 71,x 72 67 0,x 73 67 1,m 12 72,m 10 73] (.seq (sq [m 74 11,m 75 12,c2 76 23 74 75,o 77 (.not 76),m 78 77,mf 78 79 8,mf 78 80 10,gf 78 81 (.aY .neq 79 80),po 82 78 81] (.cond 82 (sq [m0 6] .ret) .skip)) (sq [l 84 3 5 3,m 85 1,m 86 2,c3 87 73 84 85 86,m 83 87,x 88 83 0,x 89 83 1,m 13 88,m 8 89] (sq [l 91 3 5 3,m 92 1,m 93 2,c3 94 74 91 92 93,m 90 94,x 95 90 0,x 96 90 1,m 14 95,m 10 96] (.seq (sq [m 97 13,m 98 14,b 99 .neq 97 98,m 100 99,mf 100 101 8,mf 100 102 10,gf 100 103 (.aY .neq 101 102),po 104 100 103] (.cond 104 (sq [m0 6] .ret) .skip)) (sq [l 106 3 5 3,m 107 1,c2 108 75 106 107,m 105 108,x 109 105 0,x 110 105 1,m 15 109,m 8 110] (sq [l 112 3 5 3,m 113 1,c2 114 76 112 113,m 111 114,x 115 111 0,x 116 111 1,m 16 115,m 10 116] (sq [m 117 15,m 118 16,o 119 (.bU (.binOp .eql 4 117 118 4) 4),m 120 119,mt 120 121 8,mt 120 122 10,gt 120 123 (.aY .eql 121 122),pa 124 120 123,m 125 124,gt 125 126 (.call 18 []),pa 127 125 126,m 6 127] .ret))))))))))))))
def iZ:List Zf:=[(.aK 6)]
def sI:aJ Tryz.prog 15 3 kR iZ:=bD [(3,3)] Tryz.func15
