import Derived.Test.YtlhomfgcibjccaaGreatDoorP39
set_option linter.all false
set_option maxHeartbeats 2000000
open Go Go.LL
namespace Go.Proofs
section
open Go.Z
def nW:Ze:=(sq [o 3 (.aP 3 [3,10] 0),o 5 (.aP 5 [5] 2),o 6 (.aQ 6 [6] [z0,z0,z0,s0,s0])] (sq [l 8 3 5 3,o 7 (.aQ 7 [7,13,14] [z0,z0,z0,s0,s0]),ls 7 5 7 8] (sq [o 9 (.raw (.buildSlice 22 0 #[]) 22),f 10 3 3,ln 11 3 10,o 12 (.raw (.call (.mk (.builtin .append) #[9,11] #[22,22])) 22),f 13 3 7,ls 7 1 13 12] (sq [f 14 3 7,ln 15 7 14,m 16 1,l 17 5 2 5,ia 18 5 15 16,o 19 (.aN 1 18),st 36 19 17 0] (sq [l 20 7 5 7,ls 6 5 6 20] .ret)))))
def y7:List Zf:=[(.jH 6 6 (some 5))]
def R5:aJ Tryz.prog 42 3 nW y7:=bD [(3,3),(5,5),(6,6),(7,7),(10,3),(13,7),(14,7)] Tryz.func42
def nM:Ze:=(sq [o 1 (.aP 1 [1,28] 0),mi 2 0,mi 3 0,mi 4 0] (.seq (sq [l 12 1 5 1,c1 13 67 12,m 5 13] (sq [m 14 5,bk 15 .neq 14 0] (.cond 15 (sq [m 16 5,mi 2 0,mi 3 0,m 4 16] .ret) .skip))) (sq [l 18 1 5 1,o 19 (.call 90 [18,(k 0)]),m 17 19,x 20 17 0,x 21 17 1,m 6 20,m 7 21] (.seq (sq [m 22 7,bk 23 .neq 22 0] (.cond 23 (sq [m 24 7,mi 2 0,mi 3 0,m 4 24] .ret) .skip)) (sq [m 25 6,le 26 25,o 8 (.cY (.const (.int .i64 (Int.negSucc 0)))),m 9 26] (.seq (sq [mi 10 0] (.block 0 (.loop (.seq (sq [m 27 10,f 28 3 1,ln 29 1 28,le 30 29,b 31 .lss 27 30] (.cond 31 .skip (.exit 0))) (.seq (.block 1 (sq [m 34 6,m 35 10,c2 36 122 34 35,m 11 36] (sq [m 37 11,m 38 9,b 39 .lss 37 38] (.cond 39 (.aI [m 40 10,m 41 11,m 8 40,m 9 41]) .skip)))) (.aI [m 32 10,bk 33 .add 32 1,m 10 33])))))) (sq [m 42 8,m 43 9,m 2 42,m 3 43,mi 4 0] .ret)))))))
def vX:List Zf:=[(.aK 2),(.aK 3),(.aK 4)]
def JQ:aJ Tryz.prog 62 1 nM vX:=bD [(1,1),(28,1)] Tryz.func62
def mD:Ze:=(sq [mi 4 0] (sq [mi 5 0] (.seq (sq [mi 6 0] (.block 0 (.loop (.seq (sq [m 9 6,m 10 0,le 11 10,b 12 .lss 9 11] (.cond 12 .skip (.exit 0))) (.seq (.block 1 (sq [mi 7 0] (.seq (sq [mi 8 0] (.block 2 (.loop (.seq (sq [m 15 8,m 16 0,le 17 16,b 18 .lss 15 17] (.cond 18 .skip (.exit 2))) (.seq (.block 3 (.seq (.drawn [m 21 0,m 22 8,ia 23 1 21 22,ld 24 23,m 25 1,ia 26 1 24 25,ld 27 26,m 28 0,m 29 6,ia 30 1 28 29,ld 31 30,m 32 1,ia 33 1 31 32,ld 34 33,b 35 .eql 27 34]) (.cond 35 (.aI [m 36 7,bk 37 .add 36 1,m 7 37]) .skip))) (.aI [m 19 8,bk 20 .add 19 1,m 8 20])))))) (.aI [m 38 5,m 39 7,o 40 (.bU (.call (.mk (.builtin .max) #[38,39] #[3,3])) 3),m 5 40])))) (.aI [m 13 6,bk 14 .add 13 1,m 6 14])))))) (sq [m 41 5,m 4 41] .ret))))
def wD:List Zf:=[(.aK 4)]
def JY:aJ Tryz.prog 122 2 mD wD:=bD [] Tryz.func122
def mE:Ze:=(sq [m0 4] (.seq (sq [mi 5 0] (.block 0 (.loop (.seq (sq [m 6 5,m 7 0,le 8 7,b 9 .lss 6 8,m 10 9,mt 10 11 5,mt 10 12 1,gt 10 13 (.len 12),gt 10 14 (.aY .lss 11 13),pa 15 10 14] (.cond 15 .skip (.exit 0))) (.seq (.block 1 (.seq (.drawn [m 18 0,m 19 5,ia 20 1 18 19,ld 21 20,m 22 1,m 23 5,ia 24 1 22 23,ld 25 24,b 26 .neq 21 25]) (.cond 26 (.seq (.drawn [m 27 0,m 28 5,ia 29 1 27 28,ld 30 29,m 31 1,m 32 5,ia 33 1 31 32,ld 34 33,b 35 .lss 30 34,m 4 35]) .ret) .skip))) (.aI [m 16 5,bk 17 .add 16 1,m 5 17])))))) (sq [m 36 0,le 37 36,m 38 1,le 39 38,b 40 .lss 37 39,m 4 40] .ret)))
def uK:List Zf:=[(.aK 4)]
def I8:aJ Tryz.prog 48 2 mE uK:=bD [] Tryz.func48
def Ph:Ze:=(sq [m0 4] (sq [m 5 0,le 6 5,m 7 1,le 8 7,b 9 .lss 6 8,m 10 9,mf 10 11 0,gf 10 12 (.len 11),mf 10 13 1,gf 10 14 (.len 13),gf 10 15 (.aY .eql 12 14),mf 10 16 15,mt 16 17 0,mt 16 18 1,gt 16 19 (.call 48 [17,18]),gf 10 20 (.pick 16 19 k0),po 21 10 20,m 4 21] .ret))
def r71:List Zf:=[(.aK 4)]
def c71:aJ Tryz.prog 58 2 Ph r71:=bD [] Tryz.func58
def nN:Ze:=(sq [o 2 (.aP 2 [2,13,19] 0),o 3 (.aP 3 [3] 1),o 4 (.aQ 4 [4] [z0,z0,z0,s0,s0]),mi 5 0] (.seq (sq [l 7 2 5 2,c1 8 71 7,m 6 8] (sq [m 9 6,bk 10 .neq 9 0] (.cond 10 (sq [o 11 (.build [z0,z0,z0,s0,s0] []),m 12 6,ls 4 5 4 11,m 5 12] .ret) .skip))) (.seq (.drawn [f 13 4 2,ln 14 2 13,l 16 3 3 3,u (.build [s0,z0,z0] [(0,(3,16))]),(c1 15 123 14,(some false)),(o 17 (.aO 85 1 [s0,z0,z0] [(0,(3,16))]),(some false)),(o 18 (.raw (.call (.mk (.builtin .append) #[15,17] #[23,23])) 23),none),f 19 4 2,ls 2 1 19 18]) (sq [l 20 2 5 2,c1 21 108 20,x 22 21 0,x 23 21 1,ls 4 5 4 22,m 5 23] .ret))))
def vY:List Zf:=[(.jH 4 4 (some 5)),(.aK 5)]
def JR:aJ Tryz.prog 63 2 nN vY:=bD [(2,2),(3,3),(4,4),(13,2),(19,2)] Tryz.func63
def mQ:Ze:=(sq [o 2 (.aP 2 [2] 0),o 3 (.aP 3 [3] 1),o 4 (.aQ 4 [4] [z0,z0,z0,s0,s0]),mi 5 0] (.seq (sq [l 7 2 5 2,c1 8 67 7,m 6 8] (sq [m 9 6,bk 10 .neq 9 0] (.cond 10 (sq [o 11 (.build [z0,z0,z0,s0,s0] []),m 12 6,ls 4 5 4 11,m 5 12] .ret) .skip))) (sq [l 13 2 5 2,l 14 3 3 3,c2 15 66 13 14,c1 16 124 15,x 17 16 0,x 18 16 1,ls 4 5 4 17,m 5 18] .ret)))
def vZ:List Zf:=[(.jH 4 4 (some 5)),(.aK 5)]
def JS:aJ Tryz.prog 64 2 mQ vZ:=bD [(2,2),(3,3),(4,4)] Tryz.func64
def MT:Ze:=(sq [o 2 (.aP 2 [2,5,10] 0),o 3 (.aP 3 [3,7,12] 1),o 4 (.aQ 4 [4] [z0,z0])] (sq [f 5 0 2,ln 6 2 5,f 7 0 3,ln 8 3 7,o 9 (.bU (.call (.mk (.builtin .max) #[6,8] #[3,3])) 3),f 10 1 2,ln 11 2 10,f 12 1 3,ln 13 3 12,o 14 (.bU (.call (.mk (.builtin .min) #[11,13] #[3,3])) 3),o 15 (.build [z0,z0] [(0,(1,9)),(1,(1,14))]),ls 4 2 4 15] .ret))
def Cw:List Zf:=[(.jH 4 4 (some 2))]
def He:aJ Tryz.prog 69 2 MT Cw:=bD [(2,2),(3,3),(4,4),(5,2),(7,3),(10,2),(12,3)] Tryz.func69
def mS:Ze:=(sq [o 1 (.aP 1 [1,12,24,32] 0),o 2 (.cY (.const s0))] (sq [o 10 (.aO 26 1 [s0] [(0,(1,(.const s0)))]),m 3 10] (.seq (sq [mi 4 0] (.block 0 (.loop (.seq (sq [m 11 4,f 12 3 1,ln 13 1 12,le 14 13,b 15 .lss 11 14] (.cond 15 .skip (.exit 0))) (.seq (.block 1 (sq [o 5 (.cY (.const s0))] (.seq (sq [mi 6 0] (.block 2 (.loop (.seq (sq [m 18 6,m 19 3,le 20 19,b 21 .lss 18 20] (.cond 21 .skip (.exit 2))) (.seq (.block 3 (sq [f 24 3 1,ln 25 1 24,m 26 4,ia 27 5 25 26,o 28 (.aN 1 27),o 29 (.aN 0 28),ld 30 29,m 7 30] (.block 4 (.loop (.seq (sq [m 31 7,f 32 3 1,ln 33 1 32,m 34 4,ia 35 5 33 34,o 36 (.aN 1 35),o 37 (.aN 1 36),ld 38 37,b 39 .leq 31 38] (.cond 39 .skip (.exit 4))) (.seq (.block 5 (.aI [m 42 5,o 43 (.raw (.buildSlice 26 0 #[]) 26),m 44 3,m 45 6,ia 46 1 44 45,ld 47 46,o 48 (.raw (.call (.mk (.builtin .append) #[43,47] #[26,26])) 26),m 49 7,o 50 (.aO 3 1 [z0] [(0,(1,49))]),o 51 (.raw (.call (.mk (.builtin .append) #[48,50] #[26,26])) 26),o 52 (.aO 26 1 [s0] [(0,(1,51))]),o 53 (.raw (.call (.mk (.builtin .append) #[42,52] #[68,68])) 68),m 5 53])) (.aI [m 40 7,bk 41 .add 40 1,m 7 41]))))))) (.aI [m 22 6,bk 23 .add 22 1,m 6 23])))))) (.aI [m 54 5,m 3 54])))) (.aI [m 16 4,bk 17 .add 16 1,m 4 17])))))) (sq [o 8 (.cY (.const s0))] (.seq (sq [mi 9 0] (.block 6 (.loop (.seq (sq [m 55 9,m 56 3,le 57 56,b 58 .lss 55 57] (.cond 58 .skip (.exit 6))) (.seq (.block 7 (.seq (.drawn [l 61 1 5 1,m 62 3,m 63 9,ia 64 1 62 63,ld 65 64,c2 66 134 61 65]) (.cond 66 (.aI [m 67 8,m 68 3,m 69 9,ia 70 1 68 69,ld 71 70,o 72 (.aO 26 1 [s0] [(0,(1,71))]),o 73 (.raw (.call (.mk (.builtin .append) #[67,72] #[68,68])) 68),m 8 73]) .skip))) (.aI [m 59 9,bk 60 .add 59 1,m 9 60])))))) (sq [m 74 8,m 2 74] .ret))))))
def wA:List Zf:=[(.aK 2)]
def JV:aJ Tryz.prog 84 1 mS wA:=bD [(1,1),(12,1),(24,1),(32,1)] Tryz.func84
def mT:Ze:=(sq [o 2 (.aP 2 [2,6] 0),m0 4] (sq [m 5 1,f 6 3 2,ln 7 2 6,le 8 7,bk 9 .sub 8 1,o 10 (.call 50 [5,(k 0),9]),m 4 10] .ret))
def wB:List Zf:=[(.aK 4)]
def JW:aJ Tryz.prog 89 2 mT wB:=bD [(2,2),(6,2)] Tryz.func89
def lS:Ze:=(sq [o 1 (.aP 1 [1] 0),o 2 (.aQ 2 [2] [z0,z0,z0,s0,s0]),mi 3 0] (.seq (sq [l 5 1 5 1,c1 6 67 5,m 4 6] (sq [m 7 4,bk 8 .neq 7 0] (.cond 8 (sq [o 9 (.build [z0,z0,z0,s0,s0] []),m 10 4,ls 2 5 2 9,m 3 10] .ret) .skip))) (.seq (sq [l 11 1 5 1,c1 12 84 11,le 13 12,bk 14 .eql 13 0] (.cond 14 (sq [o 15 (.build [z0,z0,z0,s0,s0] []),ls 2 5 2 15,mi 3 9] .ret) .skip)) (sq [l 16 1 5 1,ls 2 5 2 16,mi 3 0] .ret))))
def uG:List Zf:=[(.jH 2 2 (some 5)),(.aK 3)]
def JZ:aJ Tryz.prog 124 1 lS uG:=bD [(1,1),(2,2)] Tryz.func124
def mV:Ze:=(sq [o 2 (.aP 2 [2,17,24,34,41,48,55] 0),m0 4] (.seq (sq [mi 5 0] (.block 0 (.loop (.seq (sq [m 7 5,m 8 1,le 9 8,b 10 .lss 7 9] (.cond 10 .skip (.exit 0))) (.seq (.block 1 (.seq (.drawn [m 13 1,m 14 5,ia 15 1 13 14,ld 16 15,f 17 3 2,ln 18 2 17,m 19 5,ia 20 5 18 19,o 21 (.aN 1 20),o 22 (.aN 0 21),ld 23 22,f 24 3 2,ln 25 2 24,m 26 5,ia 27 5 25 26,o 28 (.aN 1 27),o 29 (.aN 1 28),ld 30 29,c3 31 50 16 23 30,o 32 (.not 31)]) (.cond 32 (sq [m0 4] .ret) .skip))) (.aI [m 11 5,bk 12 .add 11 1,m 5 12])))))) (.seq (sq [mi 6 0] (.block 2 (.loop (.seq (sq [m 33 6,f 34 4 2,ln 35 2 34,le 36 35,b 37 .lss 33 36] (.cond 37 .skip (.exit 2))) (.seq (.block 3 (.seq (.drawn [(m 40 1,none),(f 41 4 2,none),(ln 42 2 41,none),(m 43 6,none),(ia 44 3 42 43,none),(o 45 (.aN 0 44),none),(ld 46 45,none),(f 48 4 2,none),(ln 49 2 48,none),(m 50 6,none),(ia 51 3 49 50,none),(o 52 (.aN 1 51),none),(o 53 (.aN 0 52),none),(ld 54 53,none),(f 55 4 2,none),(ln 56 2 55,none),(m 57 6,none),(ia 58 3 56 57,none),(o 59 (.aN 1 58),none),(o 60 (.aN 1 59),none),(ld 61 60,none),(c2 47 135 40 46,(some true)),(c3 62 50 47 54 61,none),(o 63 (.not 62),none)]) (.cond 63 (sq [m0 4] .ret) .skip))) (.aI [m 38 6,bk 39 .add 38 1,m 6 39])))))) (sq [m1 4] .ret))))
def uH:List Zf:=[(.aK 4)]
def I5:aJ Tryz.prog 134 2 mV uH:=bD [(2,2),(17,2),(24,2),(34,2),(41,2),(48,2),(55,2)] Tryz.func134
def mR:Ze:=(sq [o 3 (.aP 3 [3,25] 0),o 5 (.aP 5 [5] 2),o 6 (.aQ 6 [6] [z0,z0,z0,s0,s0]),mi 7 0] (.seq (sq [l 10 3 5 3,c1 11 67 10,m 8 11] (sq [m 12 8,bk 13 .neq 12 0] (.cond 13 (sq [o 14 (.build [z0,z0,z0,s0,s0] []),m 15 8,ls 6 5 6 14,m 7 15] .ret) .skip))) (.seq (sq [l 16 3 5 3,m 17 1,c2 18 89 16 17,o 19 (.not 18)] (.cond 19 (sq [o 20 (.build [z0,z0,z0,s0,s0] []),ls 6 5 6 20,mi 7 6] .ret) .skip)) (.seq (sq [l 21 5 2 5,o 22 (.call 125 [21,(k 1),(k 20)]),o 23 (.not 22)] (.cond 23 (sq [o 24 (.build [z0,z0,z0,s0,s0] []),ls 6 5 6 24,mi 7 1] .ret) .skip)) (.seq (.drawn [f 25 3 3,ln 26 3 25,m 27 1,ia 28 5 26 27,o 29 (.aN 1 28),lm 30 2 29,l 31 5 2 5,o 9 (.aQ 9 [9,33,35] [z0,z0]),(c2 32 69 30 31,(some false)),ls 9 2 9 32]) (.seq (sq [f 33 0 9,ln 34 9 33,f 35 1 9,ln 36 9 35,b 37 .gtr 34 36] (.cond 37 (sq [o 38 (.build [z0,z0,z0,s0,s0] []),ls 6 5 6 38,mi 7 9] .ret) .skip)) (sq [l 39 3 5 3,m 40 1,l 41 9 2 9,c3 42 42 39 40 41,c1 43 124 42,x 44 43 0,x 45 43 1,ls 6 5 6 44,m 7 45] .ret)))))))
def v7:List Zf:=[(.jH 6 6 (some 5)),(.aK 7)]
def JU:aJ Tryz.prog 65 3 mR v7:=bD [(3,3),(5,5),(6,6),(9,9),(25,3),(33,9),(35,9)] Tryz.func65
def mU:Ze:=(sq [o 2 (.aP 2 [2] 0),o 4 (.cY (.const s0)),mi 5 0] (.seq (sq [m 7 1,bk 8 .neq 7 0] (.cond 8 (sq [m 9 1,o 4 (.cY (.const s0)),m 5 9] .ret) .skip)) (sq [l 10 2 5 2,c1 11 84 10,m 6 11] (.seq (sq [m 12 6,le 13 12,bk 14 .eql 13 0] (.cond 14 (sq [o 4 (.cY (.const s0)),mi 5 9] .ret) .skip)) (sq [m 15 6,m 4 15,mi 5 0] .ret)))))
def wC:List Zf:=[(.aK 4),(.aK 5)]
def JX:aJ Tryz.prog 90 2 mU wC:=bD [(2,2)] Tryz.func90
def Pg:Ze:=(sq [o 2 (.cY (.const s0))] (sq [o 3 (.cY (.const s0))] (.seq (sq [mi 4 0] (.block 0 (.loop (.seq (sq [m 5 4,m 6 0,b 7 .lss 5 6] (.cond 7 .skip (.exit 0))) (.seq (.block 1 (.aI [m 10 3,m 11 4,o 12 (.aO 3 1 [z0] [(0,(1,11))]),o 13 (.raw (.call (.mk (.builtin .append) #[10,12] #[26,26])) 26),m 3 13])) (.aI [m 8 4,bk 9 .add 8 1,m 4 9])))))) (sq [m 14 3,m 2 14] .ret))))
def r76:List Zf:=[(.aK 2)]
def c76:aJ Tryz.prog 120 1 Pg r76:=bD [] Tryz.func120
def mW:Ze:=(sq [mi 4 0] (sq [mi 5 0] (.seq (sq [mi 6 0] (.block 0 (.loop (.seq (sq [m 7 6,m 8 1,le 9 8,b 10 .lss 7 9] (.cond 10 .skip (.exit 0))) (.seq (.block 1 (.aI [m 13 5,m 14 0,m 15 1,m 16 6,ia 17 1 15 16,ld 18 17,ia 19 1 14 18,ld 20 19,b 21 .add 13 20,m 5 21])) (.aI [m 11 6,bk 12 .add 11 1,m 6 12])))))) (sq [m 22 5,m 4 22] .ret))))
def uI:List Zf:=[(.aK 4)]
def I6:aJ Tryz.prog 135 2 mW uI:=bD [] Tryz.func135
def nJ:Ze:=(sq [o 2 (.aP 2 [2,7,13,20,27,36,45,51,63,69,83] 0),o 3 (.aP 3 [3,9,15,22,30,39,56,75,89] 1),m0 4] (.seq (sq [f 7 0 2,ln 8 2 7,f 9 0 3,ln 10 3 9,b 11 .neq 8 10,m 12 11,gf 12 13 (.aU 1 2),gf 12 14 (.dA 2 none 13),gf 12 15 (.aU 1 3),gf 12 16 (.dA 3 none 15),gf 12 17 (.aY .neq 14 16),po 18 12 17,m 19 18,gf 19 20 (.aU 2 2),gf 19 21 (.dA 2 none 20),gf 19 22 (.aU 2 3),gf 19 23 (.dA 3 none 22),gf 19 24 (.aY .neq 21 23),po 25 19 24,m 26 25,gf 26 27 (.aU 3 2),gf 26 28 (.dA 2 none 27),gf 26 29 (.len 28),gf 26 30 (.aU 3 3),gf 26 31 (.dA 3 none 30),gf 26 32 (.len 31),gf 26 33 (.aY .neq 29 32),po 34 26 33,m 35 34,gf 35 36 (.aU 4 2),gf 35 37 (.dA 2 none 36),gf 35 38 (.len 37),gf 35 39 (.aU 4 3),gf 35 40 (.dA 3 none 39),gf 35 41 (.len 40),gf 35 42 (.aY .neq 38 41),po 43 35 42] (.cond 43 (sq [m0 4] .ret) .skip)) (.seq (sq [mi 5 0] (.block 0 (.loop (.seq (sq [m 44 5,f 45 3 2,ln 46 2 45,le 47 46,b 48 .lss 44 47] (.cond 48 .skip (.exit 0))) (.seq (.block 1 (.seq (.drawn [f 51 3 2,ln 52 2 51,m 53 5,ia 54 5 52 53,lm 55 5 54,f 56 3 3,ln 57 3 56,m 58 5,ia 59 5 57 58,lm 60 5 59,o 61 (.bU (.binOp .neq 50 55 60 50) 4)]) (.cond 61 (sq [m0 4] .ret) .skip))) (.aI [m 49 5,bk 50 .add 49 1,m 5 50])))))) (.seq (sq [mi 6 0] (.block 2 (.loop (.seq (sq [m 62 6,f 63 4 2,ln 64 2 63,le 65 64,b 66 .lss 62 65] (.cond 66 .skip (.exit 2))) (.seq (.block 3 (.seq (.drawn [(f 69 4 2,none),(ln 70 2 69,none),(m 71 6,none),(ia 72 3 70 71,none),(o 73 (.aN 1 72),none),(lm 74 2 73,none),(f 75 4 3,none),(ln 76 3 75,none),(m 77 6,none),(ia 78 3 76 77,none),(o 79 (.aN 1 78),none),(lm 80 2 79,none),(o 81 (.bU (.binOp .neq 36 74 80 36) 4),none),(m 82 81,none),(gf 82 83 (.aU 4 2),none),(gf 82 84 (.dA 2 none 83),none),(mf 82 85 6,none),(gf 82 86 (.bQ 3 84 85),none),(gf 82 87 (.aN 0 86),none),(gf 82 88 (.ld none 87),none),(gf 82 89 (.aU 4 3),none),(gf 82 90 (.dA 3 none 89),none),(mf 82 91 6,none),(gf 82 92 (.bQ 3 90 91),none),(gf 82 93 (.aN 0 92),none),(gf 82 94 (.ld none 93),none),(gf 82 95 (.call 23 [88,94]),none),(gf 82 96 (.not 95),none),(po 97 82 96,none)]) (.cond 97 (sq [m0 4] .ret) .skip))) (.aI [m 67 6,bk 68 .add 67 1,m 6 68])))))) (sq [m1 4] .ret)))))
def y6:List Zf:=[(.aK 4)]
def R4:aJ Tryz.prog 41 2 nJ y6:=bD [(2,2),(3,3),(7,2),(9,3),(13,2),(15,3),(20,2),(22,3),(27,2),(30,3),(36,2),(39,3),(45,2),(51,2),(56,3),(63,2),(69,2),(75,3),(83,2),(89,3)] Tryz.func41
def nK:Ze:=(sq [o 2 (.aP 2 [2,17] 0),o 4 (.aQ 4 [4] [z0,z0,z0,s0,s0])] (sq [l 7 2 5 2,o 5 (.aQ 5 [5,8,15,27] [z0,z0,z0,s0,s0]),ls 5 5 5 7] (sq [f 8 4 5,u (.qU 5 1 8 (.const s0))] (.seq (sq [mi 6 0] (.block 0 (.loop (.seq (sq [m 9 6,m 10 1,le 11 10,b 12 .lss 9 11] (.cond 12 .skip (.exit 0))) (.seq (.block 1 (.drawn [f 15 4 5,ln 16 5 15,f 17 4 2,ln 18 2 17,m 19 1,m 20 6,ia 21 1 19 20,ld 22 21,ia 23 3 18 22,lm 24 3 23,(o 25 (.aO 85 1 [s0,z0,z0] [(0,(3,24))]),(some false)),(o 26 (.raw (.call (.mk (.builtin .append) #[16,25] #[23,23])) 23),none),f 27 4 5,ls 5 1 27 26])) (.aI [m 13 6,bk 14 .add 13 1,m 6 14])))))) (sq [l 28 5 5 5,ls 4 5 4 28] .ret)))))
def y8:List Zf:=[(.jH 4 4 (some 5))]
def R6:aJ Tryz.prog 56 2 nK y8:=bD [(2,2),(4,4),(5,5),(8,5),(15,5),(17,2),(27,5)] Tryz.func56
def nL:Ze:=(sq [o 1 (.aP 1 [1,17] 0),o 2 (.cY (.const s0)),mi 3 0] (.seq (sq [l 8 1 5 1,c1 9 67 8,m 4 9] (sq [m 10 4,bk 11 .neq 10 0] (.cond 11 (sq [m 12 4,o 2 (.cY (.const s0)),m 3 12] .ret) .skip))) (.seq (sq [l 13 1 5 1,c1 14 84 13,le 15 14,bk 16 .gtr 15 0] (.cond 16 (sq [o 2 (.cY (.const s0)),mi 3 0] .ret) .skip)) (sq [f 17 4 1,ln 18 1 17,le 19 18,c1 20 120 19,m 5 20] (sq [m 21 5,m 22 5,le 23 22,c2 24 121 21 23,m 6 24] (.seq (sq [mi 7 0] (.block 0 (.loop (.seq (sq [m 25 7,m 26 6,le 27 26,b 28 .lss 25 27] (.cond 28 .skip (.exit 0))) (.seq (.block 1 (.seq (.drawn [m 31 6,m 32 7,ia 33 1 31 32,ld 34 33,m 35 5,c2 36 58 34 35,m 37 36,gt 37 38 (.dA 1 (some 5) 1),mt 37 39 6,mt 37 40 7,gt 37 41 (.bQ 1 39 40),gt 37 42 (.ld none 41),gt 37 43 (.call 56 [38,42]),gt 37 44 (.call 84 [43]),gt 37 45 (.len 44),gt 37 46 (.aY .eql 45 (k 0)),pa 47 37 46]) (.cond 47 (.aI [m 48 6,m 49 7,ia 50 1 48 49,ld 51 50,m 5 51]) .skip))) (.aI [m 29 7,bk 30 .add 29 1,m 7 30])))))) (sq [m 52 5,m 2 52,mi 3 0] .ret)))))))
def y9:List Zf:=[(.aK 2),(.aK 3)]
def JP:aJ Tryz.prog 61 1 nL y9:=bD [(1,1),(17,1)] Tryz.func61
def lT:Ze:=(sq [o 4 (.cY (.const s0))] (sq [o 9 (.aO 26 1 [s0] [(0,(1,(.const s0)))]),m 5 9] (.seq (sq [mi 6 0] (.block 0 (.loop (.seq (sq [m 10 6,m 11 0,le 12 11,b 13 .lss 10 12] (.cond 13 .skip (.exit 0))) (.seq (.block 1 (sq [m 16 5,le 17 16,m 7 17] (sq [mi 8 0] (.block 2 (.loop (.seq (sq [m 18 8,m 19 7,b 20 .lss 18 19] (.cond 20 .skip (.exit 2))) (.seq (.block 3 (sq [m 23 5,m 24 8,ia 25 1 23 24,ld 26 25,le 27 26,m 28 1,b 29 .lss 27 28] (.cond 29 (.drawn [m 30 5,m 32 5,m 33 8,ia 34 1 32 33,ld 35 34,m 37 0,m 38 6,ia 39 1 37 38,ld 40 39,u (.build [z0] [(0,(1,40))]),(o 31 (.raw (.buildSlice 26 0 #[]) 26),(some true)),u (.build [z0] [(0,(1,40))]),(o 36 (.raw (.call (.mk (.builtin .append) #[31,35] #[26,26])) 26),(some true)),(o 41 (.aO 3 1 [z0] [(0,(1,40))]),(some true)),(o 42 (.raw (.call (.mk (.builtin .append) #[36,41] #[26,26])) 26),(some false)),(o 43 (.aO 26 1 [s0] [(0,(1,42))]),(some false)),(o 44 (.raw (.call (.mk (.builtin .append) #[30,43] #[68,68])) 68),none),m 5 44]) .skip))) (.aI [m 21 8,bk 22 .add 21 1,m 8 22])))))))) (.aI [m 14 6,bk 15 .add 14 1,m 6 15])))))) (sq [m 45 5,m 4 45] .ret))))
def uJ:List Zf:=[(.aK 4)]
def I7:aJ Tryz.prog 121 2 lT uJ:=bD [] Tryz.func121
end
section
variable{vs:List Value}{ls:List (List Int)}
def N4.A0(n:N4):List Int:=[n.a,n.b,n.c,n.d]
def PN:Yd Tryz.prog 36=some (some 2):=U
section
variable{P:aX}[Tz P]{H:Hp}{g:Bool}{d:Nat}
def JF{t:TypeId}(i:sZ Tryz.prog t=some ([("Before",3,0),("By",3,1)],false)\/sZ Tryz.prog t=some ([("Low",3,0),("High",3,1)],false)){a b c e:Int}(Q:Bool->Bool->Hp->Prop):bL P.toPQ (Op.equalIn (d+1+1) t (.agg #[vi a,vi b]) (.agg #[vi c,vi e])) Q g H↔Q (decide (a=c/\b=e)) g H:=by
 refine⟨λh=>?_,zY i Q⟩;have s:∀(x y:Int) (Q:Value->Bool->Hp->Prop) g H,bL P.toPQ (part 3 #[vi x,vi y] 0) Q g H↔Q (vi x) g H:=λx y Q g H=>Vo rfl Q;have u:∀(x y:Int) (Q:Value->Bool->Hp->Prop) g H,bL P.toPQ (part 3 #[vi x,vi y] 1) Q g H↔Q (vi y) g H:=λx y Q g H=>Vo rfl Q;rcases i with i | i
 all_goals
  obtain⟨z,A,l,⟨m,v,o⟩,⟨n,w,q⟩,i⟩:=P1 (p:=P.toProgram) (by rw[Tz.prog (P:=P)];exact i)
  rw[Op.equalIn]at h
  simp only[Zg,Zw l,V0,i,DO,qAw,Zj]at h
  simp only[m,n,v,w,o,q,Zg,qCd,qCb,List.forIn_nil]at h
  by_cases j:a=c<;>by_cases k:b=e<;>simp[s,u,CR,Zg,Zj,j,k]at h ⊢<;>exact h
end
def cZ(a b:List Int):Bool:=decide (a.length<b.length) || (decide (a.length=b.length) && decide (VJ a b<0))
section
variable{P:aX}[Tz P][Loud P]{H:Hp}
structure fG(H:Hp)(vs:List Value)(ls:List (List Int)):Prop where
 len:vs.length=ls.length
 at_:∀i (h:i<vs.length) (h':i<ls.length),aF H vs[i] ls[i]
def fG.nil(H:Hp):fG H [] []:=⟨rfl,λi h=>by simp at h⟩
def fG.inc{H H':Hp}(h:fG H vs ls)(c:aL H H'):fG H' vs ls:=⟨h.len,λi a b=>(h.at_ i a b).inc c⟩
def fG.snoc{H:Hp}{v:Value}{l:List Int}(h:fG H vs ls)(f:aF H v l):fG H (vs++[v]) (ls++[l]):=by
 refine⟨by simp[h.len],λi a b=>?_⟩;have:=h.len;by_cases c:i<vs.length
 ·rw[qAp c,qAp O];exact h.at_ i c O
 simp only[BY,qAA]at a;have e:i=vs.length:=O;subst e;rw[qAr (dO _),qAr O];simp[this];exact f
end
def kR:Tryz.prog.underlying 68=some (.slice 26):=U
def t34:Yl Tryz.prog 26=some (1,some (.slice none 0 0),24):=U
theorem sR{α:Type}{p:List α->Prop}(c:p [])(e:∀l x,p l->p (l++[x])):∀l,p l:=by
 have:∀(n:Nat) (l:List α),l.length=n->p l:=by
  intro n;induction n with
  | zero=>intro l a;rw[qAb a];exact c
  | succ n ih=>
   intro l a;have b:l≠[]:=by rintro rfl;simp at a
   rw[<-qEl b];exact e _ _ (ih _ (by simp;omega))
 exact λl=>this _ l rfl
end
section
open Go.Z
def nI:Ze:=(sq [o 4 (.aP 4 [4] 0),o 5 (.aP 5 [5,22] 1),o 7 (.aP 7 [7] 3),m0 8] (.seq (sq [l 19 4 5 4,c1 20 17 19,m 21 20,gf 21 22 (.aU 0 5),gf 21 23 (.dA 5 none 22),gf 21 24 (.len 23),gf 21 25 (.aY .gtr 24 (k 20)),po 26 21 25] (.cond 26 (sq [c0 27 18,m 8 27] .ret) .skip)) (sq [l 29 4 5 4,c1 30 54 29,m 28 30,x 31 28 0,x 32 28 1,m 9 31,m 10 32] (sq [l 34 4 5 4,c1 35 61 34,m 33 35,x 36 33 0,x 37 33 1,m 11 36,m 12 37] (.seq (sq [m 38 9,m 39 11,c2 40 23 38 39,o 41 (.not 40),m 42 41,mf 42 43 10,mf 42 44 12,gf 42 45 (.aY .neq 43 44),po 46 42 45] (.cond 46 (sq [m0 8] .ret) .skip)) (sq [l 48 4 5 4,c1 49 59 48,m 47 49,x 50 47 0,x 51 47 1,x 52 47 2,m 13 50,m 14 51,m 10 52] (sq [l 54 4 5 4,c1 55 62 54,m 53 55,x 56 53 0,x 57 53 1,x 58 53 2,m 15 56,m 16 57,m 12 58] (.seq (sq [m 59 13,m 60 15,b 61 .neq 59 60,m 62 61,mf 62 63 14,mf 62 64 16,gf 62 65 (.aY .neq 63 64),po 66 62 65,m 67 66,mf 67 68 10,mf 67 69 12,gf 67 70 (.aY .neq 68 69),po 71 67 70] (.cond 71 (sq [m0 8] .ret) .skip)) (sq [l 73 4 5 4,l 74 5 3 5,c2 75 63 73 74,m 72 75,x 76 72 0,x 77 72 1,o 17 (.aQ 17 [17] [z0,z0,z0,s0,s0]),ls 17 5 17 76,m 10 77] (sq [l 79 4 5 4,l 80 5 3 5,c2 81 64 79 80,m 78 81,x 82 78 0,x 83 78 1,o 18 (.aQ 18 [18] [z0,z0,z0,s0,s0]),ls 18 5 18 82,m 12 83] (.seq (sq [l 84 17 5 17,l 85 18 5 18,c2 86 41 84 85,o 87 (.not 86),m 88 87,mf 88 89 10,mf 88 90 12,gf 88 91 (.aY .neq 89 90),po 92 88 91] (.cond 92 (sq [m0 8] .ret) .skip)) (sq [l 94 4 5 4,m 95 2,l 96 7 2 7,c3 97 38 94 95 96,m 93 97,x 98 93 0,x 99 93 1,ls 17 5 17 98,m 10 99] (sq [l 101 4 5 4,m 102 2,l 103 7 2 7,c3 104 65 101 102 103,m 100 104,x 105 100 0,x 106 100 1,ls 18 5 18 105,m 12 106] (sq [l 107 17 5 17,l 108 18 5 18,c2 109 41 107 108,m 110 109,mt 110 111 10,mt 110 112 12,gt 110 113 (.aY .eql 111 112),pa 114 110 113,m 115 114,gt 115 116 (.call 18 []),pa 117 115 116,m 8 117] .ret))))))))))))))
def mL:List Zf:=[(.aK 8)]
def R3:aJ Tryz.prog 13 4 nI mL:=bD [(4,4),(5,5),(7,7),(17,17),(18,18),(22,5)] Tryz.func13
end
variable{α:Type}{H:Hp}{r:Nat}{E:TypeId}
def mJ[Enc α]{l:List α}(a:H r=none):dD H (H.ins r (.cells (Zb l).toArray E)) E (.slice (some ⟨r,0,none⟩) l.length l.length) l (some r):=
 ⟨⟨VH l,.inr ⟨r,l.length,[],rfl,rfl,by rw[qAf];exact Hp.aG _ _ _,by rw[qAf];exact VH l,dO _⟩⟩,λb e=>by obtain rfl:=iO e;exact a⟩
def y4[Enc α](a:H r=none):dD H (H.ins r (.cells #[] E)) E (.slice (some ⟨r,0,none⟩) 0 0) ([]:List α) (some r):=mJ (l:=([]:List α)) a
def sQ{v:Value}:aF (H.ins r (.cells [v].toArray E)) (.slice (some ⟨r,0,none⟩) 1 1) [v]:=Z0 (l:=[v])
def nH{x:Int}:aF (H.ins r (.cells [vi x].toArray E)) (.slice (some ⟨r,0,none⟩) 1 1) [x]:=Z0 (l:=[x])
