import Derived.Test.YthmnpenamnoniaaGreatDoorP14
import Derived.Test.YthmnpenamnoniaaGreatDoorP15
import Derived.Test.YthmnpenamnoniaaGreatDoorP16
set_option linter.all false
set_option maxHeartbeats 400000
open Go Go.LL
namespace Go.Proofs
section
open Go.Z
def Q8:Zb:=(sq [m0 6] (sq [m 7 1,m 8 0,b 9 .leq 7 8,m 10 9,mt 10 11 0,mt 10 12 2,gt 10 13 (.bC .leq 11 12),pa 14 10 13,m 6 14] .ret))
def Td:List Zc:=[(.aK 6)]
def c53:aI Tryz.prog 10 3 Q8 Td:=bE [] Tryz.func10
def Hu:Zb:=(sq [o 3 (.aS 3 [3,8,12,14,19] 0),m0 6] (sq [m 7 1,f 8 0 3,ln 9 3 8,b 10 .leq 7 9,m 11 10,gt 11 12 (.aV 0 3),gt 11 13 (.cY 3 none 12),gt 11 14 (.aV 1 3),gt 11 15 (.cY 3 none 14),gt 11 16 (.bC .leq 13 15),pa 17 11 16,m 18 17,gt 18 19 (.aV 1 3),gt 18 20 (.cY 3 none 19),mt 18 21 2,gt 18 22 (.bC .leq 20 21),pa 23 18 22,m 6 23] .ret))
def ZrI:List Zc:=[(.aK 6)]
def ZxW:aI Tryz.prog 15 3 Hu ZrI:=bE [(3,3),(8,3),(12,3),(14,3),(19,3)] Tryz.func15
def Fx:Zb:=(sq [o 1 (.aS 1 [1] 0),m0 2] (sq [l 3 1 4 1,c1 4 72 3,o 5 (.not 4),m 6 5,gt 6 7 (.cY 1 (some 4) 1),gt 6 8 (.call 25 [7]),gt 6 9 (.bC .eql 8 (k 0)),pa 10 6 9,m 2 10] .ret))
def ZsW:List Zc:=[(.aK 2)]
def Zy8:aI Tryz.prog 20 1 Fx ZsW:=bE [(1,1)] Tryz.func20
def Gc:Zb:=(sq [o 1 (.aS 1 [1,5,9] 0),mi 2 0] (S (sq [f 5 0 1,ln 6 1 5,o 7 (.call 10 [6,(k 0),(k 20)]),o 8 (.not 7)] (cr 8 [mi 2 1])) (S (sq [f 9 1 1,ln 10 1 9,c1 11 77 10,m 3 11] (sq [m 12 3,bk 13 .neq 12 0] (cr 13 [m 14 3,m 2 14]))) (S (sq [l 15 1 4 1,c1 16 78 15,m 4 16] (sq [m 17 4,bk 18 .neq 17 0] (cr 18 [m 19 4,m 2 19]))) (sq [l 20 1 4 1,c1 21 79 20,m 2 21] .ret)))))
def ZsR:List Zc:=[(.aK 2)]
def Zy3:aI Tryz.prog 25 1 Gc ZsR:=bE [(1,1),(5,1),(9,1)] Tryz.func25
def Q4:Zb:=(sq [o 1 (.aS 1 [1,6,11,16,22,28,59,64,71,79] 0),mi 2 0] (S (sq [f 6 0 1,ln 7 1 6,o 8 (.call 10 [7,(k 0),(k 99)]),o 9 (.not 8),m 10 9,gf 10 11 (.aV 1 1),gf 10 12 (.cY 1 none 11),gf 10 13 (.call 10 [12,(k 0),(k 3)]),gf 10 14 (.not 13),po 15 10 14] (cr 15 [mi 2 1])) (S (sq [f 16 2 1,ln 17 1 16,le 18 17,o 19 (.call 10 [18,(k 2),(k 4)]),o 20 (.not 19)] (cr 20 [mi 2 2])) (S (sq [mi 3 0] (fo 0 25 [m 21 3,f 22 2 1,ln 23 1 22,le 24 23,b 25 .lss 21 24] 1 (sq [f 28 2 1,ln 29 1 28,m 30 3,ia 31 5 29 30,lm 32 5 31,o 4 (.aO 4 [4,33,38,39,41,42,48,54] [z0,z0,z0,z0,z0]),ls 4 5 4 32] (sq [f 33 0 4,l 34 4 2 33,o 35 (.call 15 [34,(k 0),(k 99)]),o 36 (.not 35),m 37 36,gf 37 38 (.aV 0 4),gf 37 39 (.aV 1 38),gf 37 40 (.cY 4 none 39),gf 37 41 (.aV 0 4),gf 37 42 (.aV 0 41),gf 37 43 (.cY 4 none 42),gf 37 44 (.bC .sub 40 43),gf 37 45 (.bC .geq 44 (k 3)),po 46 37 45,m 47 46,gf 47 48 (.aV 2 4),gf 47 49 (.cY 4 (some 2) 48),gf 47 50 (.call 15 [49,(k 0),(k 199)]),gf 47 51 (.not 50),po 52 47 51,m 53 52,gf 53 54 (.aV 4 4),gf 53 55 (.cY 4 none 54),gf 53 56 (.call 10 [55,(k 0),(k 199)]),gf 53 57 (.not 56),po 58 53 57] (cr 58 [mi 2 1]))) (ic 26 27 3))) (S (sq [f 59 3 1,ln 60 1 59,le 61 60,bk 62 .gtr 61 3] (cr 62 [mi 2 2])) (S (sq [mi 5 0] (fo 2 67 [m 63 5,f 64 3 1,ln 65 1 64,le 66 65,b 67 .lss 63 66] 3 (S (S (.drawn [l 70 1 4 1,f 71 3 1,ln 72 1 71,m 73 5,ia 74 3 72 73,o 75 (.aU 0 74),ld 76 75,c2 77 88 70 76,o 78 (.not 77)]) (cr 78 [mi 2 6])) (sq [f 79 3 1,ln 80 1 79,m 81 5,ia 82 3 80 81,o 83 (.aU 1 82),lm 84 2 83,o 85 (.call 15 [84,(.const (.int .i64 (Int.negSucc 198))),(k 199)]),o 86 (.not 85)] (cr 86 [mi 2 1]))) (ic 68 69 5))) (sq [mi 2 0] .ret)))))))
def Sz:List Zc:=[(.aK 2)]
def c64:aI Tryz.prog 30 1 Q4 Sz:=bE [(1,1),(4,4),(6,1),(11,1),(16,1),(22,1),(28,1),(33,4),(38,4),(39,4),(41,4),(42,4),(48,4),(54,4),(59,1),(64,1),(71,1),(79,1)] Tryz.func30
def RP:Zb:=(sq [o 1 (.raw (.box 25 0) 0),o 2 (.cV (.const s0)),mi 3 0] (sq [lm 9 4 1,o 10 (.call 64 [9,(.func 65)]),m 8 10,x 11 8 0,x 12 8 1,o 4 (.raw (.alloc 137) 0),st 137 4 11 0,m 5 12] (S (sq [m 13 5,bk 14 .neq 13 0] (cr 14 [m 15 5,o 2 (.cV (.const s0)),m 3 15])) (sq [o 6 (.raw (.alloc 89) 0)] (S (sq [o 16 (.aU 0 4),lm 17 4 16,o 18 (.raw (.makeFunc (.func 93) #[17] #[]) 173)] (B 0 (.gU 18 [19] (.aG [o 7 (.raw (.alloc 31) 0),st 31 7 19 0]) (B 1 (sq [o 20 (.aU 4 4),ld 21 20,o 22 (.raw (.makeFunc (.func 95) #[] #[7]) 142),c2 23 94 21 22] (N 23 (.aG [ld 24 6,lm 25 2 7,o 26 (.aX 31 1 [z0,z0] [(0,(2,25))]),o 27 (.raw (.call (.mk (.builtin .append) #[24,26] #[89,89])) 89),st 89 6 27 0]) .skip)))))) (sq [ld 28 6,m 2 28,mi 3 0] .ret))))))
def Tv:List Zc:=[(.aK 2),(.aK 3)]
def c26:aI Tryz.prog 35 1 RP Tv:=bE [] Tryz.func35
def RH:Zb:=(sq [o 1 (.aS 1 [1,23] 0),mi 2 0,mi 3 0,mi 4 0] (sq [l 13 1 4 1,o 14 (.call 64 [13,(.func 65)]),m 12 14,x 15 12 0,x 16 12 1,o 5 (.aO 5 [5,20,30,37] [z0,z0,s0,s0,s0]),ls 5 5 5 15,m 4 16] (S (sq [m 17 4,bk 18 .neq 17 0] (cr 18 [m 19 4,mi 2 0,mi 3 0,m 4 19])) (S (.drawn [f 20 4 5,ln 21 5 20,le 22 21,(o 2 (.cV (.const (.int .i64 (Int.negSucc 0)))),none),m 3 22]) (S (sq [f 23 2 1,ln 24 1 23,le 25 24,mi 26 0] (fp 0 27 [b 27 .lss 26 25] 1 (sq [m 28 26,m 6 28] (sq [o 29 (.raw (.makeMap 201 none) 201),m 7 29] (sq [mi 8 0] (S (sq [f 30 4 5,ln 31 5 30,le 32 31,mi 33 0] (fp 2 34 [b 34 .lss 33 32] 3 (sq [ia 35 6 31 33,lm 36 6 35,o 10 (.aO 10 [10] [z0,z0,z0,z0,z0,z0]),ls 10 6 10 36] (sq [f 37 0 5,l 38 5 4 37,l 39 10 6 10,c2 40 54 38 39,m 41 6,o 42 (.raw (.index 115 40 41) 3),m 11 42] (sq [m 43 7,m 44 11,o 45 (.raw (.lookup 201 43 44 false) 3),bk 46 .add 45 1,u (.raw (.mapUpdate 201 43 44 46) 0)] (.aG [m 47 8,m 48 7,m 49 11,o 50 (.raw (.lookup 201 48 49 false) 3),o 51 (.bT (.call (.mk (.builtin .max) #[47,50] #[3,3])) 3),m 8 51])))) (.aG [bk 52 .add 33 1,m 33 52]))) (sq [m 53 8,m 54 3,b 55 .lss 53 54] (N 55 (.aG [m 56 6,m 57 8,m 2 56,m 3 57]) .skip)))))) (.aG [bk 58 .add 26 1,m 26 58]))) (sq [m 59 2,m 60 3,m 2 59,m 3 60,mi 4 0] .ret))))))
def Tm:List Zc:=[(.aK 2),(.aK 3),(.aK 4)]
def c39:aI Tryz.prog 40 1 RH Tm:=bE [(1,1),(5,5),(10,10),(20,5),(23,1),(30,5),(37,5)] Tryz.func40
def RI:Zb:=(sq [o 1 (.aS 1 [1,19] 0),o 2 (.cV (.const s0)),mi 3 0] (S (sq [l 10 1 4 1,c1 11 89 10,m 4 11] (sq [m 12 4,bk 13 .neq 12 0] (cr 13 [m 14 4,o 2 (.cV (.const s0)),m 3 14]))) (sq [l 15 1 4 1,o 16 (.build [z0,z0,s0,s0] [(0,(4,15))]),o 5 (.aO 5 [5] [z0,z0,s0,s0]),ls 5 4 5 16] (S (sq [l 17 5 4 5,c1 18 115 17] (cr 18 [o 2 (.cV (.const s0)),mi 3 0])) (sq [o 6 (.cV (.const s0))] (S (sq [f 19 3 1,ln 20 1 19,le 21 20,o 22 (.bT (.binOp .shl 3 (k 1) 21 3) 3),mi 23 0] (fp 0 24 [b 24 .lss 23 22] 1 (sq [m 25 23,m 7 25] (sq [l 27 5 4 5,m 28 7,c2 29 116 27 28,m 26 29,x 30 26 0,x 31 26 1,o 8 (.aO 8 [8] [z0,z0,s0,s0]),ls 8 4 8 30,m 9 31] (sq [l 32 8 4 8,c1 33 115 32,o 34 (.not 33)] (N 34 (.aG [m 35 6,m 36 9,o 37 (.aX 29 1 [s0] [(0,(1,36))]),o 38 (.raw (.call (.mk (.builtin .append) #[35,37] #[73,73])) 73),m 6 38]) .skip)))) (.aG [bk 39 .add 23 1,m 23 39]))) (S (.drawn [m 40 6,o 41 (.bX 1 40 (k 0)),ld 42 41,m 43 6,(o 44 (.bT (.slice 73 43 (some (k 1)) none none) 73),none),o 45 (.call 117 [(.func 118),42,44]),m 2 45,mi 3 0]) .ret)))))))
def Tn:List Zc:=[(.aK 2),(.aK 3)]
def c37:aI Tryz.prog 45 1 RI Tn:=bE [(1,1),(5,5),(8,8),(19,1)] Tryz.func45
def Hz:Zb:=(sq [o 2 (.aS 2 [2,5,8,10] 0),mi 4 0] (S (.drawn [f 5 0 2,ln 6 2 5,m 7 1,f 8 1 2,ln 9 2 8,f 10 0 2,ln 11 2 10,b 12 .sub 9 11,bk 13 .add 12 1,o 14 (.bT (.binOp .rem 3 7 13 3) 3),b 15 .add 6 14,m 4 15]) .ret))
def ZrD:List Zc:=[(.aK 4)]
def ZxR:aI Tryz.prog 50 2 Hz ZrD:=bE [(2,2),(5,2),(8,2),(10,2)] Tryz.func50
def QX:Zb:=(sq [o 1 (.aS 1 [1] 0),m0 2] (sq [m1 2] .ret))
def Sr:List Zc:=[(.aK 2)]
def c90:aI Tryz.prog 65 1 QX Sr:=bE [(1,1)] Tryz.func65
def Et:Zb:=(sq [m0 4] (sq [m 5 0,m 6 1,b 7 .gtr 5 6,m 4 7] .ret))
def ZsK:List Zc:=[(.aK 4)]
def ZyW:aI Tryz.prog 70 2 Et ZsK:=bE [] Tryz.func70
def Ey:Zb:=(sq [o 2 (.cV (.const s0))] (S (sq [m 3 0,o 4 (.bT (.binOp .eql 66 3 (.const s0) 66) 4)] (cr 4 [o 2 (.cV (.const s0))])) (sq [o 5 (.raw (.buildSlice 66 0 #[]) 66),m 6 0,o 7 (.raw (.call (.mk (.builtin .append) #[5,6] #[66,66])) 66),m 2 7] .ret)))
def ZsG:List Zc:=[(.aK 2)]
def ZyS:aI Tryz.prog 75 1 Ey ZsG:=bE [] Tryz.func75
def Ff:Zb:=(sq [o 4 (.aO 4 [4] [z0,z0])] (sq [m 5 0,m 6 1,o 7 (.build [z0,z0] [(0,(1,5)),(1,(1,6))]),ls 4 2 4 7] .ret))
def ZsA:List Zc:=[(.gP 4 4 (some 2))]
def ZyM:aI Tryz.prog 80 2 Ff ZsA:=bE [(4,4)] Tryz.func80
def Fl:Zb:=(sq [o 3 (.aS 3 [3] 0),mi 4 0] (sq [o 5 (.aU 0 1),lm 6 4 5,l 7 3 5 3,ld 8 2,c3 9 86 6 7 8,m 4 9] .ret))
def Zsv:List Zc:=[(.aK 4)]
def ZyH:aI Tryz.prog 85 3 Fl Zsv:=bE [(3,3)] Tryz.func85
def QZ:Zb:=(sq [o 2 (.raw (.box 113 0) 0),o 3 (.raw (.box 142 1) 0)] (sq [o 4 (.raw (.alloc 235) 0)] (sq [o 5 (.raw (.makeFunc (.func 148) #[] #[2,4,3]) 235),st 235 4 5 0] (.aG [ld 6 4,o 7 (.build [z0,z0,z0,z0] []),o 8 (.raw (.call (.mk (.value 6) #[7,(k 0)] #[115,3])) 4)]))))
def St:List Zc:=[]
def c87:aI Tryz.prog 90 2 QZ St:=bE [] Tryz.func90
def QR:Zb:=(sq [o 2 (.aS 2 [2,7] 0),m0 3] (sq [l 4 2 6 2,c1 5 91 4,m 6 5,gt 6 7 (.aV 4 2),gt 6 8 (.cY 2 (some 2) 7),gt 6 9 (.ld (some 2) 1),gt 6 10 (.bT (.binOp .eql 31 8 9 31) 4),pa 11 6 10,m 3 11] .ret))
def Sj:List Zc:=[(.aK 3)]
def c97:aI Tryz.prog 95 2 QR Sj:=bE [(2,2),(7,2)] Tryz.func95
def Hw:Zb:=(sq [o 2 (.aO 2 [2] [z0,z0,z0,z0])] (sq [o 3 (.raw (.alloc 115) 0)] (sq [o 4 (.bT (.slice 115 3 none none none) 29),m 5 0,o 6 (.raw (.call (.mk (.builtin .copy) #[4,5] #[29,29])) 3)] (sq [lm 7 4 3,ls 2 4 2 7] .ret))))
def ZrG:List Zc:=[(.gP 2 2 (some 4))]
def ZxU:aI Tryz.prog 100 1 Hw ZrG:=bE [(2,2)] Tryz.func100
def Ec:Zb:=(sq [o 2 (.aS 2 [2,5,11,17] 0),o 3 (.aS 3 [3,7,13,19] 1),m0 4] (sq [f 5 1 2,ln 6 2 5,f 7 1 3,ln 8 3 7,b 9 .gtr 6 8,m 10 9,gf 10 11 (.aV 1 2),gf 10 12 (.cY 2 none 11),gf 10 13 (.aV 1 3),gf 10 14 (.cY 3 none 13),gf 10 15 (.bC .eql 12 14),mf 10 16 15,gt 16 17 (.aV 0 2),gt 16 18 (.cY 2 none 17),gt 16 19 (.aV 0 3),gt 16 20 (.cY 3 none 19),gt 16 21 (.bC .lss 18 20),gf 10 22 (.pick 16 21 k0),po 23 10 22,m 4 23] .ret))
def Zr9:List Zc:=[(.aK 4)]
def Zym:aI Tryz.prog 110 2 Ec Zr9:=bE [(2,2),(3,3),(5,2),(7,3),(11,2),(13,3),(17,2),(19,3)] Tryz.func110
def Eh:Zb:=(sq [o 1 (.raw (.box 113 0) 0),o 2 (.raw (.alloc 4) 0)] (S (sq [lm 3 4 1,o 4 (.raw (.makeFunc (.func 90) #[3] #[]) 171)] (B 0 (.gU 4 [5] .skip (B 1 (sq [u (.raw (.store 4 2 k1) 0)] .ret))))) (sq [u (.raw (.store 4 2 k0) 0)] .ret)))
def Zr4:List Zc:=[(.mem 2 none)]
def Zyh:aI Tryz.prog 115 1 Eh Zr4:=bE [] Tryz.func115
def Gf:Zb:=(sq [o 2 (.cV (.const s0))] (S (sq [m 3 0,o 4 (.bT (.binOp .eql 29 3 (.const s0) 29) 4)] (cr 4 [o 2 (.cV (.const s0))])) (sq [o 5 (.raw (.buildSlice 29 0 #[]) 29),m 6 0,o 7 (.raw (.call (.mk (.builtin .append) #[5,6] #[29,29])) 29),m 2 7] .ret)))
def Zrm:List Zc:=[(.aK 2)]
def ZxA:aI Tryz.prog 120 1 Gf Zrm:=bE [] Tryz.func120
def Dm:Zb:=(sq [o 3 (.aS 3 [3] 0),o 5 (.aS 5 [5,9,11,14,15,17,18] 2),m0 6] (S (.drawn [l 7 3 4 3,m 8 1,f 9 0 5,ln 10 5 9,f 11 1 5,ln 12 5 11,f 14 2 5,f 15 0 14,ln 16 5 15,f 17 2 5,f 18 1 17,ln 19 5 18,(o 13 (.call 186 [7,8,10,12]),(some false)),c3 20 10 13 16 19,m 6 20]) .ret))
def Zso:List Zc:=[(.aK 6)]
def ZyB:aI Tryz.prog 135 3 Dm Zso:=bE [(3,3),(5,5),(9,5),(11,5),(14,5),(15,5),(17,5),(18,5)] Tryz.func135
def Dt:Zb:=(sq [o 2 (.aS 2 [2,6] 0),m0 4] (sq [m 5 1,f 6 1 2,ln 7 2 6,le 8 7,bk 9 .sub 8 1,o 10 (.call 10 [5,(k 0),9]),m 4 10] .ret))
def Zsi:List Zc:=[(.aK 4)]
def Zyv:aI Tryz.prog 140 2 Dt Zsi:=bE [(2,2),(6,2)] Tryz.func140
def Dy:Zb:=(sq [m0 6] (sq [m 7 1,m 8 0,b 9 .leq 7 8,m 10 9,mt 10 11 0,mt 10 12 2,gt 10 13 (.bC .leq 11 12),pa 14 10 13,m 6 14] .ret))
def Zsd:List Zc:=[(.aK 6)]
def Zyq:aI Tryz.prog 145 3 Dy Zsd:=bE [] Tryz.func145
def Ig:Zb:=(sq [mi 4 0] (S (sq [m 6 0,le 7 6,mi 8 0] (fp 0 9 [b 9 .lss 8 7] 1 (sq [m 10 8,m 5 10] (sq [m 11 1,m 12 0,m 13 5,ia 14 6 12 13,lm 15 6 14,o 16 (.raw (.call (.mk (.value 11) #[15] #[117])) 4)] (cr 16 [m 17 5,m 4 17]))) (.aG [bk 18 .add 8 1,m 8 18]))) (sq [o 4 (.cV (.const (.int .i64 (Int.negSucc 0))))] .ret)))
def Zrx:List Zc:=[(.aK 4)]
def ZxM:aI Tryz.prog 150 2 Ig Zrx:=bE [] Tryz.func150
def Eg:Zb:=(sq [mi 2 0] (S (sq [m 5 0,le 6 5,bk 7 .lss 6 1] (N 7 (.aG [o 8 (.raw (.makeInterface 9 (.const (.string (.mk #[115,108,105,99,101,115,46,77,105,110,58,32,101,109,112,116,121,32,108,105,115,116])))) 20),u (.raw (.panic 8) 0)]) .skip)) (sq [m 9 0,o 10 (.bX 1 9 (k 0)),ld 11 10,m 3 11] (S (sq [mi 4 1] (fo 0 15 [m 12 4,m 13 0,le 14 13,b 15 .lss 12 14] 1 (.aG [m 18 3,m 19 0,m 20 4,ia 21 1 19 20,ld 22 21,o 23 (.bT (.call (.mk (.builtin .min) #[18,22] #[3,3])) 3),m 3 23]) (ic 16 17 4))) (sq [m 24 3,m 2 24] .ret)))))
def Zr5:List Zc:=[(.aK 2)]
def Zyi:aI Tryz.prog 189 1 Eg Zr5:=bE [] Tryz.func189
def Gj:Zb:=(sq [m 8 1,bk 9 .add 8 1,m 6 9] (fo 0 12 [m 10 6,m 11 2,b 12 .lss 10 11] 1 (sq [m 15 6,m 7 15] (B 2 (.loop (S (S (.drawn [m 16 7,m 17 1,b 18 .gtr 16 17,m 19 18,mt 19 20 0,mt 19 21 7,gt 19 22 (.bX 1 20 21),gt 19 23 (.ld none 22),mt 19 24 0,mt 19 25 7,gt 19 26 (.bC .sub 25 (k 1)),gt 19 27 (.bX 1 24 26),gt 19 28 (.ld none 27),gt 19 29 (.call 200 [23,28]),pa 30 19 29]) (N 30 .skip (.exit 2))) (S (B 3 (.drawn [m 33 0,m 34 7,m 35 0,m 36 7,bk 37 .sub 36 1,m 38 0,m 39 7,bk 40 .sub 39 1,ia 41 1 38 40,ld 42 41,m 43 0,m 44 7,ia 45 1 43 44,ld 46 45,ia 47 1 33 34,(st 3 47 42 0,(some false)),ia 48 1 35 37,st 3 48 46 0])) (.aG [m 31 7,bk 32 .sub 31 1,m 7 32])))))) (ic 13 14 6)))
def Zri:List Zc:=[]
def Zxw:aI Tryz.prog 194 3 Gj Zri:=bE [] Tryz.func194
def Gq:Zb:=(sq [m0 6] (sq [m 11 1,bk 12 .add 11 1,m 7 12] (S (sq [mi 8 0] (fo 0 14 [m 13 8,bk 14 .lss 13 5] 1 (S (B 2 (.loop (S (S (.drawn [m 17 7,m 18 2,b 19 .lss 17 18,m 20 19,mt 20 21 0,mt 20 22 7,gt 20 23 (.bX 1 21 22),gt 20 24 (.ld none 23),mt 20 25 0,mt 20 26 7,gt 20 27 (.bC .sub 26 (k 1)),gt 20 28 (.bX 1 25 27),gt 20 29 (.ld none 28),gt 20 30 (.call 200 [24,29]),gt 20 31 (.not 30),pa 32 20 31]) (N 32 .skip (.exit 2))) (B 3 (ic 33 34 7))))) (S (sq [m 35 7,m 36 2,b 37 .eql 35 36] (cr 37 [m1 6])) (S (sq [m 38 2,m 39 1,b 40 .sub 38 39,bk 41 .lss 40 50] (cr 41 [m0 6])) (S (.drawn [m 42 0,m 43 7,m 44 0,m 45 7,bk 46 .sub 45 1,m 47 0,m 48 7,bk 49 .sub 48 1,ia 50 1 47 49,ld 51 50,m 52 0,m 53 7,ia 54 1 52 53,ld 55 54,ia 56 1 42 43,(st 3 56 51 0,(some false)),ia 57 1 44 46,st 3 57 55 0]) (S (sq [m 58 7,m 59 1,b 60 .sub 58 59,bk 61 .geq 60 2] (N 61 (sq [m 62 7,bk 63 .sub 62 1,m 9 63] (fo 4 65 [m 64 9,bk 65 .geq 64 1] 5 (S (S (.drawn [m 68 0,m 69 9,ia 70 1 68 69,ld 71 70,m 72 0,m 73 9,bk 74 .sub 73 1,ia 75 1 72 74,ld 76 75,c2 77 200 71 76,o 78 (.not 77)]) (N 78 (.exit 4) .skip)) (.drawn [m 79 0,m 80 9,m 81 0,m 82 9,bk 83 .sub 82 1,m 84 0,m 85 9,bk 86 .sub 85 1,ia 87 1 84 86,ld 88 87,m 89 0,m 90 9,ia 91 1 89 90,ld 92 91,ia 93 1 79 80,(st 3 93 88 0,(some false)),ia 94 1 81 83,st 3 94 92 0])) (.aG [m 66 9,bk 67 .sub 66 1,m 9 67]))) .skip)) (sq [m 95 2,m 96 7,b 97 .sub 95 96,bk 98 .geq 97 2] (N 98 (sq [m 99 7,bk 100 .add 99 1,m 10 100] (fo 6 103 [m 101 10,m 102 2,b 103 .lss 101 102] 7 (S (S (.drawn [m 106 0,m 107 10,ia 108 1 106 107,ld 109 108,m 110 0,m 111 10,bk 112 .sub 111 1,ia 113 1 110 112,ld 114 113,c2 115 200 109 114,o 116 (.not 115)]) (N 116 (.exit 6) .skip)) (.drawn [m 117 0,m 118 10,m 119 0,m 120 10,bk 121 .sub 120 1,m 122 0,m 123 10,bk 124 .sub 123 1,ia 125 1 122 124,ld 126 125,m 127 0,m 128 10,ia 129 1 127 128,ld 130 129,ia 131 1 117 118,(st 3 131 126 0,(some false)),ia 132 1 119 121,st 3 132 130 0])) (ic 104 105 10))) .skip))))))) (ic 15 16 8))) (sq [m0 6] .ret))))
def Zrd:List Zc:=[(.aK 6)]
def Zxr:aI Tryz.prog 199 3 Gq Zrd:=bE [] Tryz.func199
def Gu:Zb:=(sq [mi 2 0] (S (sq [m 3 0,o 4 (.bC .geq 3 (eU 4294967296))] (N 4 (sq [m 5 0,o 6 (.bT (.binOp .shr 189 5 (eU 32) 240) 189),m 0 6] (.aG [mi 2 32])) .skip)) (S (sq [m 7 0,o 8 (.bC .geq 7 (eU 65536))] (N 8 (sq [m 9 0,o 10 (.bT (.binOp .shr 189 9 (eU 16) 240) 189),m 0 10] (.aG [m 11 2,bk 12 .add 11 16,m 2 12])) .skip)) (S (sq [m 13 0,o 14 (.bC .geq 13 (eU 256))] (N 14 (sq [m 15 0,o 16 (.bT (.binOp .shr 189 15 (eU 8) 240) 189),m 0 16] (.aG [m 17 2,bk 18 .add 17 8,m 2 18])) .skip)) (sq [m 19 2,m 20 0,o 21 (.bT (.convert 189 5 20) 5),o 22 (.raw (.index 9 (.const (.string (.mk #[0,1,2,2,3,3,3,3,4,4,4,4,4,4,4,4,5,5,5,5,5,5,5,5,5,5,5,5,5,5,5,5,6,6,6,6,6,6,6,6,6,6,6,6,6,6,6,6,6,6,6,6,6,6,6,6,6,6,6,6,6,6,6,6,7,7,7,7,7,7,7,7,7,7,7,7,7,7,7,7,7,7,7,7,7,7,7,7,7,7,7,7,7,7,7,7,7,7,7,7,7,7,7,7,7,7,7,7,7,7,7,7,7,7,7,7,7,7,7,7,7,7,7,7,7,7,7,7,8,8,8,8,8,8,8,8,8,8,8,8,8,8,8,8,8,8,8,8,8,8,8,8,8,8,8,8,8,8,8,8,8,8,8,8,8,8,8,8,8,8,8,8,8,8,8,8,8,8,8,8,8,8,8,8,8,8,8,8,8,8,8,8,8,8,8,8,8,8,8,8,8,8,8,8,8,8,8,8,8,8,8,8,8,8,8,8,8,8,8,8,8,8,8,8,8,8,8,8,8,8,8,8,8,8,8,8,8,8,8,8,8,8,8,8,8,8,8,8,8,8,8,8,8,8,8,8]))) 21) 5),o 23 (.bT (.convert 5 3 22) 3),b 24 .add 19 23,m 2 24] .ret)))))
def Zq9:List Zc:=[(.aK 2)]
def Zxn:aI Tryz.prog 204 1 Gu Zq9:=bE [] Tryz.func204
def Iu:Zb:=(sq [o 3 (.aS 3 [3,11,12,36,37] 0),o 5 (.aS 5 [5] 2),m0 6] (S (sq [f 11 0 3,f 12 2 11,ln 13 3 12,le 14 13,mi 15 0] (fp 0 16 [b 16 .lss 15 14] 1 (sq [ia 17 4 13 15,lm 18 4 17,o 8 (.aO 8 [8,22,24,27,28,30,31] [z0,z0,z0,z0]),ls 8 4 8 18] (S (.drawn [l 19 3 4 3,m 20 1,l 21 5 5 5,f 22 0 8,ln 23 8 22,f 24 1 8,ln 25 8 24,f 27 2 8,f 28 0 27,ln 29 8 28,f 30 2 8,f 31 1 30,ln 32 8 31,(o 26 (.call 239 [19,20,21,23,25]),(some false)),c3 33 145 26 29 32,o 34 (.not 33)]) (cr 34 [m0 6]))) (.aG [bk 35 .add 15 1,m 15 35]))) (S (sq [f 36 0 3,f 37 3 36,ln 38 3 37,le 39 38,mi 40 0] (fp 2 41 [b 41 .lss 40 39] 3 (sq [ia 42 3 38 40,lm 43 3 42,o 10 (.aO 10 [10,46,49,52] [z0,z0,(.bool false)]),ls 10 3 10 43] (S (.drawn [l 44 3 4 3,l 45 5 5 5,f 46 0 10,ln 47 10 46,f 49 1 10,ln 50 10 49,f 52 2 10,ln 53 10 52,(c3 48 86 44 45 47,(some false)),b 51 .geq 48 50,o 54 (.bT (.binOp .neq 4 51 53 4) 4)]) (cr 54 [m0 6]))) (.aG [bk 55 .add 40 1,m 40 55]))) (sq [m1 6] .ret))))
def ZrW:List Zc:=[(.aK 6)]
def Zya:aI Tryz.prog 223 3 Iu ZrW:=bE [(3,3),(5,5),(8,8),(10,10),(11,3),(12,3),(22,8),(24,8),(27,8),(28,8),(30,8),(31,8),(36,3),(37,3),(46,10),(49,10),(52,10)] Tryz.func223
def Hh:Zb:=(sq [mi 6 0] (sq [m 7 0,m 8 1,bk 9 .sub 8 1,m 10 1,m 11 1,bk 12 .add 11 1,m 13 2,o 14 (.call 229 [7,9,10,12,13]),m 6 14] .ret))
def Zq1:List Zc:=[(.aK 6)]
def Zxe:aI Tryz.prog 228 3 Hh Zq1:=bE [] Tryz.func228
def Ld:Zb:=(sq [mi 8 0,mi 9 0] (S (S (.drawn [m 10 0,m 11 2,ia 12 1 10 11,ld 13 12,m 14 0,m 15 1,ia 16 1 14 15,ld 17 16,c2 18 200 13 17]) (N 18 (sq [m 19 3,o 20 (.bT (.nilCheck 19) 0),ld 21 20,bk 22 .add 21 1,o 23 (.bT (.nilCheck 19) 0),st 3 23 22 0] (sq [m 24 2,m 25 1,m 8 24,m 9 25] .ret)) .skip)) (sq [m 26 1,m 27 2,m 8 26,m 9 27] .ret)))
def ZqY:List Zc:=[(.aK 8),(.aK 9)]
def Zxb:aI Tryz.prog 240 4 Ld ZqY:=bE [] Tryz.func240
def Jc:Zb:=(sq [o 1 (.aS 1 [1,5,6,10,11] 0),mi 2 0] (S (sq [f 5 0 1,f 6 3 5,ln 7 1 6,le 8 7,bk 9 .gtr 8 3] (cr 9 [mi 2 2])) (S (sq [f 10 0 1,f 11 3 10,ln 12 1 11,le 13 12,mi 14 0] (fp 0 15 [b 15 .lss 14 13] 1 (sq [ia 16 3 12 14,lm 17 3 16,o 4 (.aO 4 [4,19,24] [z0,z0,(.bool false)]),ls 4 3 4 17] (sq [l 18 1 4 1,f 19 0 4,ln 20 4 19,c2 21 144 18 20,o 22 (.not 21),m 23 22,gf 23 24 (.aV 1 4),gf 23 25 (.cY 4 none 24),gf 23 26 (.call 145 [25,(k 0),(k 959)]),gf 23 27 (.not 26),po 28 23 27] (cr 28 [mi 2 1]))) (.aG [bk 29 .add 14 1,m 14 29]))) (sq [mi 2 0] .ret))))
def ZrO:List Zc:=[(.aK 2)]
def Zx2:aI Tryz.prog 263 1 Jc ZrO:=bE [(1,1),(4,4),(5,1),(6,1),(10,1),(11,1),(19,4),(24,4)] Tryz.func263
def Lg:Zb:=(sq [o 1 (.aS 1 [1,5,6,11,12] 0),mi 2 0] (S (sq [f 5 0 1,f 6 2 5,ln 7 1 6,le 8 7,o 9 (.call 105 [8,(k 2),(k 4)]),o 10 (.not 9)] (cr 10 [mi 2 2])) (S (sq [f 11 0 1,f 12 2 11,ln 13 1 12,le 14 13,mi 15 0] (fp 0 16 [b 16 .lss 15 14] 1 (sq [ia 17 5 13 15,lm 18 5 17,o 4 (.aO 4 [4,19,24,25,27,28,34,40] [z0,z0,z0,z0,z0]),ls 4 5 4 18] (sq [f 19 0 4,l 20 4 2 19,o 21 (.call 113 [20,(k 0),(k 99)]),o 22 (.not 21),m 23 22,gf 23 24 (.aV 0 4),gf 23 25 (.aV 1 24),gf 23 26 (.cY 4 none 25),gf 23 27 (.aV 0 4),gf 23 28 (.aV 0 27),gf 23 29 (.cY 4 none 28),gf 23 30 (.bC .sub 26 29),gf 23 31 (.bC .geq 30 (k 3)),po 32 23 31,m 33 32,gf 33 34 (.aV 2 4),gf 33 35 (.cY 4 (some 2) 34),gf 33 36 (.call 113 [35,(k 0),(k 199)]),gf 33 37 (.not 36),po 38 33 37,m 39 38,gf 39 40 (.aV 4 4),gf 39 41 (.cY 4 none 40),gf 39 42 (.call 105 [41,(k 0),(k 199)]),gf 39 43 (.not 42),po 44 39 43] (cr 44 [mi 2 1]))) (.aG [bk 45 .add 15 1,m 15 45]))) (sq [mi 2 0] .ret))))
def ZqW:List Zc:=[(.aK 2)]
def Zw9:aI Tryz.prog 268 1 Lg ZqW:=bE [(1,1),(4,4),(5,1),(6,1),(11,1),(12,1),(19,4),(24,4),(25,4),(27,4),(28,4),(34,4),(40,4)] Tryz.func268
end
variable{bv v s:Value}{b:Bk}{α:Type}{j i r:Nat}{H0 H':Hp}{E:TypeId}{b2 b':Option Nat}
section
variable{P:aY}[Tz P]{H:Hp}
def On(n e c:Int):LL.Za P 105 #[vi n,vi e,vi c] H λv f=>H=f/\v=vb (decide (e<=n/\n<=c)):=by refine aI.m (bG ZyD) rfl ?_;unfold Fs;refine OJ (λa=>?_) (λa=>?_)<;>refine Y ?_<;>exact⟨rfl,by simp[Yn,a]⟩
def Ub(n e c:Int):LL.Za P 10 #[vi n,vi e,vi c] H λv f=>H=f/\v=vb (decide (e<=n/\n<=c)):=by refine aI.m (bG c53) rfl ?_;unfold Q8;refine OJ (λa=>?_) (λa=>?_)<;>refine Y ?_<;>exact⟨rfl,by simp[Yn,a]⟩
def Zvg(m n:Int):LL.Za P 70 #[vi m,vi n] H λv a=>H=a/\v=vb (decide (n<m)):=by refine aI.m (bG ZyW) rfl ?_;unfold Et;refine Y ?_;exact⟨rfl,rfl⟩
def ZuK(m n:Int):LL.Za P 71 #[vi m,vi n] H λv a=>H=a/\v=vb (decide (m<n)):=by refine aI.m (bG ZyN) rfl ?_;unfold Fe;refine Y ?_;exact⟨rfl,rfl⟩
def FN(a b g f:Int)(k:P.still H.gh=false):LL.Za P 113 #[.agg #[vi a,vi b],vi g,vi f] H λv h=>H=h/\v=vb (decide (g<=a/\a<=b/\b<=f)):=by refine aI.m (bG ZxY) rfl ?_;unfold Hr;refine OJ (λc=>?_) (λc=>?_)<;>refine Y ?_;refine OI (λe=>?_) (λe=>?_)<;>refine Y ?_<;>exact⟨rfl,by simp[Yn,c,e]⟩;exact⟨rfl,by simp[Yn,c]⟩
def KZ(hb:bK H bv b)(n:Int)(h:b.aF.length<=1000000)(e:P.still H.gh=false):LL.Za P 97 #[bv,vi n] H λv a=>H=a/\v=vb (decide (0<=n/\n<b.aF.length)):=by obtain⟨k,f,rfl,c,g⟩:=hb;refine aI.m (bG c99) rfl ?_;unfold QP;refine Y ?_;refine ZK c rfl (Y ?_);refine Zv (vs:=[vi n,vi 0,vi (b.aF.length-1)]) rfl (On _ _ _) ?_;rintro v _ ⟨rfl,rfl⟩;refine Y ?_;exact⟨rfl,qAQ vb (qDd.2 O)⟩
def VG(b:Bk):Int:=if(0<=b.op/\b.op<=99)/\(0<=b.sl/\b.sl<=3)then 0 else 1
def ZwK(hb:bK H bv b)(f:P.still H.gh=false):LL.Za P 267 #[bv] H λv a=>H=a/\v=vi (VG b):=by
 obtain⟨l,g,rfl,k,h⟩:=hb;refine aI.m (bG Zxa) rfl ?_;unfold Lf;refine Y ?_;refine Zv (vs:=[vi b.op,vi 0,vi 99]) rfl (On _ _ _) ?_;rintro v _ ⟨rfl,rfl⟩;refine OJ (λc=>?_) (λc=>?_)
 ·refine Y ?_;exact⟨rfl,by simp[Yn,VG];omega⟩
 refine Y ?_;refine Zv (vs:=[vi b.sl,vi 0,vi 3]) rfl (On _ _ _) ?_;rintro v _ ⟨rfl,rfl⟩;refine OJ (λe=>?_) (λe=>?_)
 ·refine Y ?_;exact⟨rfl,by simp[Yn,VG];omega⟩
 refine Y ?_;exact⟨rfl,by simp[Yn,VG];omega⟩
def lQ(p:pU):Bool:=decide (0<=p.ml/\p.ml<=p.mh/\p.mh<=99) && decide (p.mh-p.ml<3) && decide (0<=p.bl/\p.bl<=p.bh/\p.bh<=199) && decide (0<=p.w/\p.w<=199)
def Y4(b:Bk):Int:=if ¬ (2<=b.aF.length/\b.aF.length<=4)then 2 else if b.aF.all lQ then 0 else 1
def ER{f:α->Bool}{l:List α}(a:j<l.length):(l.take (j+1)).all f=((l.take j).all f && f l[j]):=by rw[iO a,qCI];simp only[List.all_cons,List.all_nil,Bool.and_true]
def EQ{f:α->Bool}{l:List α}(a:j<l.length)(h:f l[j]=false):l.all f=false:=by rw[List.all_eq_false];exact⟨l[j],qAa a,by simp[h]⟩
def Zs9(hb:bK H bv b)(D:b.aF.length<=1000000)(f:P.still H.gh=false):LL.Za P 268 #[bv] H λv g=>H=g/\v=vi (Y4 b):=by
 obtain⟨z,A,rfl,k,B⟩:=hb;refine aI.m (bG Zw9) rfl ?_;unfold Lg;refine Y ?_;refine ZK k rfl (Y ?_);refine Zv (vs:=[vi b.aF.length,vi 2,vi 4]) rfl (On _ _ _) ?_;rintro v _ ⟨rfl,rfl⟩;refine OJ (λn=>?_) (λn=>?_)
 ·refine Y ?_;exact⟨rfl,by simp[Yn,Y4];omega⟩
 refine Y ?_;refine ZK k rfl (Y ?_);refine ZF b.aF.length (λj g=>H=g/\(b.aF.take j).all lQ=true) (λj=>[(13,z),(14,vi b.aF.length),(15,vi j)]) (λ_=>[]) ⟨rfl,by simp⟩ V trivial ?_;rintro j _ C ⟨rfl,e⟩;refine OJ (λo=>?_) (λo=>?_)
 ·refine Y ?_;refine V3 k rfl rfl rfl (i:=j) O λa u=>Y ?_;refine Z5 f rfl u rfl (Y ?_);refine Zv (vs:=[.agg #[vi b.aF[j].ml,vi b.aF[j].mh],vi 0,vi 99]) rfl (FN _ _ _ _ f) ?_;rintro v _ ⟨rfl,rfl⟩;refine Y ?_;have next:lQ b.aF[j]=true->(b.aF.take (j+1)).all lQ=true:=λh=>by rw[ER O,e,h];rfl
  have stop:lQ b.aF[j]=false->Y4 b=1:=λh=>by rw[Y4,bY O,EQ O h];rfl
  unfold lQ at next stop
  refine OI (λl=>?_) (λl=>?_)
  ·refine Y ?_;exact⟨rfl,by rw[stop (by simp[l])];rfl⟩
  refine OJ (λp=>?_) (λp=>?_)
  ·refine Y ?_;exact⟨rfl,by rw[stop (by simp;omega)];rfl⟩
  refine Y ?_;refine Zv (vs:=[.agg #[vi b.aF[j].bl,vi b.aF[j].bh],vi 0,vi 199]) rfl (FN _ _ _ _ f) ?_;rintro v _ ⟨rfl,rfl⟩;refine OJ (λq=>?_) (λq=>?_)
  ·refine Y ?_;exact⟨rfl,by rw[stop (by simp;omega)];rfl⟩
  refine Y ?_;refine Zv (vs:=[vi b.aF[j].w,vi 0,vi 199]) rfl (On _ _ _) ?_;rintro v _ ⟨rfl,rfl⟩;refine OJ (λt=>?_) (λt=>?_)
  ·refine Y ?_;exact⟨rfl,by rw[stop (by simp;omega)];rfl⟩
  refine Y ?_;exact⟨⟨j+1,O⟩,cZ O,⟨rfl,next (by simp;omega)⟩,V,trivial,rfl⟩
 refine Y ?_;have:j=b.aF.length:=O;subst this;exact⟨rfl,by rw[Y4,bY O,BY (by simpa using e)];rfl⟩
end
def nI(n:Nat):List gA->Int
 | []=>0
 | c :: l=>if ¬ (0<=c.p/\c.p<n)then 6 else if ¬ (-199<=c.gl/\c.gl<=c.gh/\c.gh<=199)then 1 else nI n l
def VU(b:Bk):Int:=if 3<b.bJ.length then 2 else nI b.aF.length b.bJ
def ZC(b:Bk):Int:=if VG b≠0 then VG b else if Y4 b≠0 then Y4 b else VU b
def ZY(H:Hp):Prop:=aC H ⟨1,0,none⟩ [vf 267,vf 268,vf 269]
def xY{l:List α}(a:j<l.length):l.drop j=l[j] :: l.drop (j+1):=List.drop_eq_getElem_cons a
section
variable{P:aY}[Tz P]{H:Hp}
def ZwR(hb:bK H bv b)(A:b.aF.length<=1000000)(B:b.bJ.length<=1000000)(f:P.still H.gh=false):LL.Za P 269 #[bv] H λv h=>H=h/\v=vi (VU b):=by
 have l:=hb;obtain⟨t,k,rfl,D,n⟩:=hb;refine aI.m (bG Zw8) rfl ?_;unfold Lh;refine Y ?_;refine ZK n rfl ?_;refine OJ (λu=>?_) (λu=>?_)
 ·refine Y ?_;exact⟨rfl,by rw[VU,BY O];rfl⟩
 refine Y ?_;refine ZK n rfl (Y ?_);refine ZF b.bJ.length (λj h=>H=h/\nI b.aF.length b.bJ=nI b.aF.length (b.bJ.drop j)) (λj=>[(1,vi 0),(12,k),(13,vi b.bJ.length),(14,vi j)]) (λ_=>[(1,[vi b.op,vi b.sl,t,k])]) ⟨rfl,rfl⟩ V V ?_;rintro j _ C ⟨rfl,c⟩;refine OJ (λw=>?_) (λw=>?_)
 ·have g:j<b.bJ.length:=O;rw[xY g,nI]at c;refine Y ?_;refine V3 n rfl rfl rfl (i:=j) g λa z=>Y ?_;refine Z5 f rfl z rfl (Y ?_);refine Zv (vs:=[.agg #[vi b.op,vi b.sl,t,k],vi b.bJ[j].p]) rfl (KZ l _ A f) ?_;rintro v _ ⟨rfl,rfl⟩;refine OJ (λo=>?_) (λo=>?_)
  ·refine Y ?_;exact⟨rfl,by rw[VU,bY O,c,BY o];rfl⟩
  refine Y ?_;refine Zv (vs:=[.agg #[vi b.bJ[j].gl,vi b.bJ[j].gh],vi (-199),vi 199]) rfl (FN _ _ _ _ f) ?_;rintro v _ ⟨rfl,rfl⟩;refine OJ (λq=>?_) (λq=>?_)
  ·refine Y ?_;exact⟨rfl,by rw[VU,bY O,c,bY O,BY q];rfl⟩
  refine Y ?_;rw[bY O,bY O]at c;exact⟨⟨j+1,O⟩,cZ O,⟨rfl,c⟩,V,V,rfl⟩
 refine Y ?_;have:j=b.bJ.length:=O;subst this;rw[qCE]at c;exact⟨rfl,by rw[VU,bY O,c];rfl⟩
def U9(hb:bK H bv b)(u:ZY H)(o:b.aF.length<=1000000)(n:b.bJ.length<=1000000)(c:P.still H.gh=false):LL.Za P 89 #[bv] H λv g=>H=g/\v=vi (ZC b):=by
 have e:=hb;obtain⟨w,p,rfl,B,z⟩:=hb;refine aI.m (bG c78) rfl ?_;unfold oT;refine Y ?_;refine Z5 c rfl u rfl (Y ?_);refine ZF 3 (λj g=>H=g/\(1<=j->VG b=0)/\(2<=j->Y4 b=0)/\(3<=j->VU b=0)) (λj=>[(1,vi 0),(6,.agg #[vf 267,vf 268,vf 269]),(7,vi j)]) (λ_=>[(1,[vi b.op,vi b.sl,w,p])]) ⟨rfl,O,O,O⟩ V V ?_;rintro j _ A ⟨rfl,f,k,q⟩;refine OJ (λt=>?_) (λt=>?_)
 ·have l:j=0\/j=1\/j=2:=O;refine Y ?_;rcases l with rfl | rfl | rfl
  ·refine OY (bL P4) (bH NM) (pF KO) rfl rfl (i:=0) O rfl (Y ?_);refine Yp rfl rfl (Yg U (ZwK e c)) ?_;rintro v _ ⟨rfl,rfl⟩;refine OJ (λa=>?_) (λa=>?_)
   ·refine Y ?_;exact⟨rfl,by rw[ZC,BY (by exact a)];rfl⟩
   refine Y ?_;exact⟨⟨1,O⟩,(by show 3-1<3-0;omega),⟨rfl,λ_=>a,λh=>absurd (show 2<=1 from h) O,λh=>absurd (show 3<=1 from h) O⟩,V,V,rfl⟩
  ·refine OY (bL P4) (bH NM) (pF KO) rfl rfl (i:=1) O rfl (Y ?_);refine Yp rfl rfl (Yg U (Zs9 e o c)) ?_;rintro v _ ⟨rfl,rfl⟩;refine OJ (λa=>?_) (λa=>?_)
   ·refine Y ?_;exact⟨rfl,by rw[ZC,bY (by rw[f O];simp),BY a];rfl⟩
   refine Y ?_;exact⟨⟨2,O⟩,(by show 3-2<3-1;omega),⟨rfl,λ_=>f O,λ_=>a,λh=>absurd (show 3<=2 from h) O⟩,V,V,rfl⟩
  refine OY (bL P4) (bH NM) (pF KO) rfl rfl (i:=2) O rfl (Y ?_);refine Yp rfl rfl (Yg U (ZwR e o n c)) ?_;rintro v _ ⟨rfl,rfl⟩;refine OJ (λa=>?_) (λa=>?_)
  ·refine Y ?_;exact⟨rfl,by rw[ZC,bY (by rw[f O];simp),bY (by rw[k O];simp)];rfl⟩
  refine Y ?_;exact⟨⟨3,O⟩,(by show 3-3<3-2;omega),⟨rfl,λ_=>f O,λ_=>k O,λ_=>a⟩,V,V,rfl⟩
 have:j=3:=O;subst this;refine Y ?_;exact⟨rfl,by rw[ZC,bY (by rw[f O];simp),bY (by rw[k O];simp),q O];rfl⟩
end
structure N4 where
 (a b c d:Int)
def N4.get(n:N4):Nat->Int
 | 0=>n.a
 | 1=>n.b
 | 2=>n.c
 | _=>n.d
def N4.of(f:Nat->Int):N4:=⟨f 0,f 1,f 2,f 3⟩
theorem N4.fO(f:Nat->Int)(a:j<4):(N4.of f).get j=f j:=by
 match j,a with
 | 0,_=>rfl
 | 1,_=>rfl
 | 2,_=>rfl
 | 3,_=>rfl
theorem N4.ext'{m n:N4}(h:∀j,j<4->m.get j=n.get j):m=n:=by
 cases m;cases n
 have a:=h 0 O;have c:=h 1 O;have e:=h 2 O;have f:=h 3 O;simp only[N4.get]at a c e f;subst a c e f;rfl
def N4.cells(n:N4):List Value:=[vi n.a,vi n.b,vi n.c,vi n.d]
def N4.kX(n:N4):List Int:=[n.a,n.b,n.c,n.d]
def ZD(n:N4):Value:=.agg #[vi n.a,vi n.b,vi n.c,vi n.d]
theorem xT(n:N4)(a:j<4):n.cells[0+j * 1]? = some (vi (n.get j)):=by
 match j,a with
 | 0,_=>rfl
 | 1,_=>rfl
 | 2,_=>rfl
 | 3,_=>rfl
def N4.put(n:N4)(j:Nat)(v:Int):N4:=N4.of λi=>if i=j then v else n.get i
theorem xD(n:N4)(v:Int)(a:j<4):ZZ n.cells (0+j * 1) [vi v]=(n.put j v).cells:=by
 match j,a with
 | 0,_=>rfl
 | 1,_=>rfl
 | 2,_=>rfl
 | 3,_=>rfl
def N4.eD(n:N4)(v:Int)(hi:i<4):(n.put j v).get i=if i=j then v else n.get i:=N4.fO _ hi
structure Zs where
 m:N4
 (bf bP:Int)
def Zs.cells(x:Zs):List Value:=[vi x.m.a,vi x.m.b,vi x.m.c,vi x.m.d,vi x.bf,vi x.bP]
def ZP(x:Zs):Value:=.agg #[vi x.m.a,vi x.m.b,vi x.m.c,vi x.m.d,vi x.bf,vi x.bP]
theorem Zzl(x:Zs)(a:j<4):x.cells[0+j * 1]? = some (vi (x.m.get j)):=by
 match j,a with
 | 0,_=>rfl
 | 1,_=>rfl
 | 2,_=>rfl
 | 3,_=>rfl
instance:Enc Zs:=⟨6,λx=>x.cells,λ_=>rfl⟩
def uY(b:Bk)(x:Zs)(i:Nat):Int:=b.op-x.m.get i+if x.bf<=i then x.bP else 0
def Zm(b:Bk)(x:Zs):N4:=.of λi=>if i<b.aF.length then uY b x i else 0
def Sm(n:Int):Prop:=-100000<=n/\n<=100000
def N4.Sm(n:N4):Prop:=∀j,j<4->Proofs.Sm (n.get j)
structure CG(x:Zs):Prop where
 m:x.m.Sm
 bP:Sm x.bP
structure EH(b:Bk):Prop where
 op:Sm b.op
 le:b.aF.length<=4
def Uv(b:Bk)(x:Zs)(j:Nat):N4:=.of λi=>if i<j then uY b x i else 0
def Qq{x:Zs}(_hj:j<4):(Uv b x j).put j (uY b x j)=Uv b x (j+1):=by
 refine N4.ext' λi a=>?_;rw[N4.eD _ _ a,Uv,N4.fO _ a,Uv,N4.fO _ a];by_cases e:i=j
 ·subst e;simp
 rw[bY e];by_cases h:i<j
 ·rw[BY h,BY O]
 rw[bY h,bY O]
theorem N4.hO(n:N4)(v w:Int):(n.put j v).put j w=n.put j w:=by refine N4.ext' λi hi=>?_;rw[N4.eD _ _ hi,N4.eD _ _ hi,N4.eD _ _ hi];split<;>rfl
section
variable{P:aY}[Tz P]{H:Hp}
def O9{x:Zs}(hb:bK H bv b)(ok:EH b)(e:CG x)(c:P.still H.gh=false):LL.Za P 54 #[bv,ZP x] H λv g=>H=g/\v=ZD (Zm b x):=by
 obtain⟨A,k,rfl,u,B⟩:=hb;have n:=ok.le;obtain⟨q,t⟩:=ok.op;obtain⟨w,z⟩:=e.bP;refine aI.m (bG Zzd) rfl ?_;unfold Bz;refine Y ?_;refine ZK u rfl (Y ?_);refine ZF b.aF.length (λj g=>H=g) (λj=>[(2,vi 0),(3,vi 0),(4,vi 0),(5,vi 0),(10,vi b.aF.length),(11,vi j)]) (λj=>[(2,[vi b.op,vi b.sl,A,k]),(3,x.cells),(4,[vi 0,vi 0,vi 0,vi 0]),(5,(Uv b x j).cells)]) rfl V V ?_;rintro j _ C rfl;refine OJ (λl=>?_) (λl=>?_)
 ·have a:j<4:=O;obtain⟨o,p⟩:=e.m j a;refine Y ?_;refine VB rfl rfl a (Y ?_);refine VN c rfl rfl (Zzl x a) (Y ?_);refine VB rfl rfl a (Y ?_);refine CC c rfl rfl rfl rfl (by show 0+j * 1+1<=4;omega) rfl ?_;refine OJ (λh=>?_) (λh=>?_)
  ·refine Y ?_;refine VB rfl rfl a (Y ?_);refine VN (v:=vi (b.op-x.m.get j)) c rfl rfl (by show(ZZ (Uv b x j).cells (0+j * 1) [vi (b.op-x.m.get j)])[0+j * 1]? = _;rw[xD _ _ a,xT _ a,N4.eD _ _ a,BY rfl]) (Y ?_);refine VB rfl rfl a (Y ?_);refine CC c rfl rfl rfl rfl (by show 0+j * 1+1<=(ZZ (Uv b x j).cells (0+j * 1) [vi (b.op-x.m.get j)]).length;rw[xD _ _ a];show _<=4;omega) rfl (Y ?_);refine⟨⟨j+1,O⟩,cZ O,rfl,V,⟨rfl,rfl,rfl,?_,trivial⟩,rfl⟩;show some (ZZ (ZZ (Uv b x j).cells (0+j * 1) [vi (b.op-x.m.get j)]) (0+j * 1) [vi (b.op-x.m.get j+x.bP)])=some (Uv b x (j+1)).cells;rw[xD _ _ a,xD _ _ a,N4.hO,<-Qq a,uY,BY h]
  refine Y ?_;refine⟨⟨j+1,O⟩,cZ O,rfl,V,⟨rfl,rfl,rfl,?_,trivial⟩,rfl⟩;show some (ZZ (Uv b x j).cells (0+j * 1) [vi (b.op-x.m.get j)])=some (Uv b x (j+1)).cells;rw[xD _ _ a,<-Qq a,uY,bY h,Int.add_zero]
 have:j=b.aF.length:=O;subst this;refine Y ?_;exact⟨rfl,rfl⟩
end
def xZ[Enc α](l a:List α):Zh (l++a)=Zh l++Zh a:=by simp[Zh]
def Zwz[Enc α](x:α):Zh [x]=Enc.enc x:=by simp[Zh]
structure cS{α:Type}[Enc α](H0 H:Hp)(E:TypeId)(v:Value)(l:List α)(b:Option Nat):Prop where
 own:eY H E (Enc.sz α) v (Zh l) l.length b
 fresh:∀r,b=some r->H0 r=none
def cS.nil[Enc α](H0 H:Hp)(E:TypeId):cS H0 H E (.slice none 0 0) ([]:List α) none:=⟨.nil H E _,λr h=>by simp at h⟩
def cS.sl[Enc α]{H:Hp}{l:List α}{b:Option Nat}(h:cS H0 H E v l b):Zj H v l:=by obtain⟨A,c,a,e⟩:=h.own.cells;exact⟨A,c,a,λf=>e (by simpa using f)⟩
def cS.ins[Enc α]{H:Hp}{l:List α}{b:Option Nat}(h:cS H0 H E v l b){o:Obj}(e:H r=none):cS H0 (H.ins r o) E v l b:=
 ⟨h.own.sub λc y _ a=>(Yd e).mem c y a,h.fresh⟩
def eA(b b2:Option Nat):Prop:=∀r,b=some r->b2≠some r
def eA.none(b:Option Nat):eA none b:=λr h=>by simp at h
def eA.symm{b:Option Nat}(h:eA b b2):eA b2 b:=λr a c=>h r c a
def As{H:Hp}{b:Option Nat}(f:H0.Sub H)(g:∀r,b=some r->H0 r=none)(c:pV H H' b b'):H0.Sub H':=
 ⟨λd y a=>c.keep d y (f.mem d y a) (λe=>by rw[g d e]at a;simp at a),c.gh.trans f.gh⟩
def cS.eT{β:Type}[Enc α][Enc β]{H:Hp}{h:TypeId}{o:Value}{l:List α}{n:List β}{b:Option Nat}(_h:cS H0 H E v l b)(g:cS H0 H h o n b2)(m:eA b b2)(c:pV H H' b b'):cS H0 H' h o n b2/\eA b' b2:=by
 have q:∀d y,b2=some d->H d=some y->H' d=some y:=λd y e p=>c.keep d y p (λa=>m d a e);refine⟨⟨g.own.sub q,g.fresh⟩,?_⟩;rcases c.new with rfl | ⟨r,rfl,t⟩
 ·exact m
 intro u e a;obtain rfl:=iN e;obtain⟨_,⟨_,_,f⟩ | ⟨w,_,_,f,_,k,_⟩⟩:=g.own
 ·rw[f]at a;simp at a
 rw[f]at a;obtain rfl:=iN a;rw[t]at k;simp at k
def cS.pA[Enc α]{H:Hp}{l:List α}{b:Option Nat}(f:H0.Sub H)(h:cS H0 H E v l b)(c:pV H H' b b'):∀r,b'=some r->H0 r=none:=by
 rcases c.new with rfl | ⟨r,rfl,a⟩
 ·exact h.fresh
 intro g e;obtain rfl:=iN e;cases hh:H0 r with
 | none=>rfl
 | some y=>rw[f.mem r y hh]at a;simp at a
def YJ[Enc α]{H:Hp}{l:List α}{c:Nat}:Zj (H.ins r (.cells (Zh l).toArray E)) (.slice (some ⟨r,0,none⟩) l.length c) l:=
 ⟨_,_,rfl,λ_=>⟨_,rfl,rfl,_,_,Hp.aD _ _ _,λj a=>by simp[Obj.fT]⟩⟩
section
variable{P:aY}[Tz P]{H:Hp}{d:Option Nat}{next:aL->Hp->Prop}{σ:aL}{x y:Operand}
def OZ[Enc α]{J t T:TypeId}{k:Nat}{L w:Value}{l l':List α}{b:Option Nat}(G:P.toProgram.underlying J=some (.slice E))(q:P.toProgram.underlying t=some (.slice E))(K:TI P.toProgram E (Enc.sz α) L k)(I:L.cells.size=Enc.sz α)(D:0<Enc.sz α)
  (u:H0.Sub H) (f:cS H0 H E s l b) (Q:Zj H w l') (M:((Zh l').all Value.bS)=true) (n:l.length+l'.length<=1000000000) (o:k<=1000) (B:σ.get x=some s) (C:σ.get y=some w) (p:P.still H.gh=false)
  (h:∀g H' b',H0.Sub H'->cS H0 H' E g (l++l') b'->pV H H' b b'->next (σ.set d g) H'):(aR.raw (.call { callee:=.builtin .append,args:=#[x,y],argTypes:=#[J,t] }) T).m P d next σ H:=by
 obtain⟨A,c,rfl,N⟩:=Q;by_cases F:l'=[]
 ·subst F;refine CA G q K I D B C f.own (m:=0) (xs:=[]) (.inl ⟨rfl,A,c,rfl⟩) (by simp) rfl n o p λg H' b' z e=>?_;exact h g H' b' (As u f.fresh e) ⟨by simpa using z,f.pA u e⟩ e
 obtain⟨a,rfl,O⟩:=N F;refine CA G q K I D B C f.own (m:=l'.length) (xs:=Zh l') (.inr ⟨a,c,rfl,O⟩) (UC l') M n o p λg H' b' z e=>?_;refine h g H' b' (As u f.fresh e) ⟨?_,f.pA u e⟩ e;rw[xZ,IN];exact z
end
theorem UD(l:List Int):Zh l=l.map vi:=by
 induction l with
 | nil=>rfl
 | cons a l ih=>simp only[Zh,qAJ,qBh]at ih ⊢;rw[ih];rfl
def KX(l:List Int):((Zh l).all Value.bS)=true:=by rw[UD];simp[Value.bS]
def xI[Enc α]{H:Hp}{l:List α}{b:Option Nat}(u:eY H E (Enc.sz α) s (Zh l) l.length b)(p:1<=l.length) :
  ∃a c,s=.slice a l.length c/\Zj H (.slice (if c=1 then a else a.map (·.add (1 * Enc.sz α))) (l.length-1) (c-1)) (l.drop 1):=by
 obtain⟨w,⟨o,f,g⟩ | ⟨r,cap,rest,o,f,g,z,A⟩⟩:=u
 ·omega
 refine⟨_,cap,f,_,cap-1,by rw[qCD],λt=>?_⟩;have q:1<l.length:=by
  rcases qAM 1 l.length with h | h
  ·exact h
  exact absurd (qBb h) t
 rw[bY O];refine⟨_,rfl,CI rfl _,_,_,by rw[vQ];exact g,λj B=>?_⟩;have e:Zh l=Enc.enc l[0]++Zh (l.drop 1):=by
  cases l with
  | nil=>simp at p
  | cons x l=>simp[Zh]
 rw[vR];simp only[Obj.fT,qAt];have k:(Zh (l.drop 1)).length+Enc.sz α=(Zh l).length:=by rw[e,IN,Enc.len];omega
 rw[qAB O,e,qAY (by rw[Enc.len];omega),Enc.len];congr 1;omega
def vK{H:Hp}{x:Int}:Zj (H.ins r (.cells [vi x].toArray E)) (.slice (some ⟨r,0,none⟩) 1 1) [x]:=YJ (l:=[x])
theorem Z8{l:List α}(h:i<l.length)(x:α):l.getD i x=l[i]:=by rw[qAl,qAx h];rfl
def ZG(a:α->α->Bool)(f:α)(l:List α):α:=l.foldl (λf x=>if a x f then x else f) f
theorem ET(a:α->α->Bool)(f:α){l:List α}(c:j<l.length):ZG a f (l.take (j+1))=if a l[j] (ZG a f (l.take j))then l[j]else ZG a f (l.take j):=by unfold ZG;rw[iO c,qBA];rfl
section
variable{P:aY}[Tz P]{H:Hp}
def EU{h:Value}{c:Int->Int->Bool}(t:∀a b,bR P h #[vi a,vi b] H λv e=>H=e/\v=vb (c a b))(f:Int){l:List Int}(o:Zj H v l)(w:l.length<=1000000)(n:P.still H.gh=false):LL.Za P 69 #[h,vi f,v] H λv e=>H=e/\v=vi (ZG c f l):=by
 refine aI.m (bG ZyX) rfl ?_;unfold Es;refine Y ?_;refine ZK o rfl (Y ?_);refine ZF l.length (λj e=>H=e) (λj=>[(0,h),(1,vi (ZG c f (l.take j))),(9,v),(10,vi l.length),(11,vi j)]) (λj=>[]) rfl V trivial ?_;rintro j _ u rfl;refine OJ (λp=>?_) (λp=>?_)
 ·have g:j<l.length:=O;have hb:=ET c f g;refine Y ?_;refine V3 o rfl rfl rfl (i:=j) g λa q=>Y ?_;refine Zg n rfl q (Y ?_);refine Yp rfl rfl (t l[j] (ZG c f (l.take j))) ?_;rintro v _ ⟨rfl,rfl⟩;refine OJ (λk=>?_) (λk=>?_)
  ·refine Y ?_;rw[BY k]at hb;exact⟨⟨j+1,O⟩,cZ O,rfl,⟨rfl,by rw[hb];rfl,rfl,rfl,rfl,trivial⟩,trivial,rfl⟩
  refine Y ?_;rw[bY (by simp[k])]at hb;exact⟨⟨j+1,O⟩,cZ O,rfl,⟨rfl,by rw[hb];rfl,rfl,rfl,rfl,trivial⟩,trivial,rfl⟩
 have:j=l.length:=O;subst this;refine Y ?_;exact⟨rfl,by rw[qAh];rfl⟩
def nH(a b:Int):Bool:=decide (b<a)
def m8(a b:Int):Bool:=decide (a<b)
def Cc:∀a b,bR P (vf 70) #[vi a,vi b] H λv c=>H=c/\v=vb (nH a b):=λa b=>Yg U (Zvg a b)
def Db:∀a b,bR P (vf 71) #[vi a,vi b] H λv c=>H=c/\v=vb (m8 a b):=λa b=>Yg U (ZuK a b)
def VP(b:Bk)(g:N4):List Int:=(List.range b.aF.length).map λi=>(b.aF.getD i ⟨0,0,0,0,0⟩).bl-g.get i
def VQ(b:Bk)(g:N4):List Int:=(List.range b.aF.length).map λi=>(b.aF.getD i ⟨0,0,0,0,0⟩).bh-(b.aF.getD i ⟨0,0,0,0,0⟩).w-g.get i
def YZ(b:Bk)(g:N4):Int:=ZG nH ((VP b g).getD 0 0) ((VP b g).drop 1)
def Y1(b:Bk)(g:N4):Int:=ZG m8 ((VQ b g).getD 0 0) ((VQ b g).drop 1)
def Bh(f:Nat->Int){n:Nat}(h:j<n):((List.range n).map f).take (j+1)=((List.range n).map f).take j++[f j]:=by rw[iO (by simpa using h)];simp
structure EJ(b:Bk):Prop where
 bl:∀i (h:i<b.aF.length),Sm b.aF[i].bl
 bh:∀i (h:i<b.aF.length),Sm b.aF[i].bh
 w:∀i (h:i<b.aF.length),Sm b.aF[i].w
def FM{g:N4}(hb:bK H bv b)(nV:b.aF.length<=4)(k9:1<=b.aF.length)(t:EJ b)(U:g.Sm)(q:P.still H.gh=false):LL.Za P 68 #[bv,ZD g] H λv z=>H.Sub z/\v=.agg #[vi (YZ b g),vi (Y1 b g)]:=by
 obtain⟨pv,cv,rfl,Z,hc⟩:=hb;refine aI.m (bG ZyY) rfl ?_;unfold Er;refine Y ?_;refine ZK Z rfl (Y ?_);refine Z4 (α:=Value×Value×Option Nat×Option Nat) b.aF.length (λj s z=>H.Sub z/\cS H z 3 s.1 ((VP b g).take j) s.2.2.1/\cS H z 3 s.2.1 ((VQ b g).take j) s.2.2.2/\eA s.2.2.1 s.2.2.2)
  (λj s=>[(3,vi 0),(4,vi 0),(5,s.1),(6,s.2.1),(11,pv),(12,vi b.aF.length),(13,vi j)]) (λj s=>[(3,g.cells),(4,[vi 0,vi 0])]) (.slice none 0 0,.slice none 0 0,none,none) ⟨.refl H,.nil H H 3,.nil H H 3,.none _⟩ V V ?_
 rintro j ⟨v5,v6,b5,b6⟩ H1 hj ⟨R,u,K,D⟩;simp only at u K D;have e:P.still H1.gh=false:=by rw[R.gh];exact q
 refine OJ (λh1=>?_) (λh1=>?_)
 ·have f:j<b.aF.length:=O;have h:j<4:=O;obtain⟨q1,q2⟩:=t.bl j f;obtain⟨q3,q4⟩:=t.bh j f;obtain⟨q5,q6⟩:=t.w j f;obtain⟨q7,q8⟩:=U j h;refine Y ?_;refine V3 (Z.sub R) rfl rfl rfl (i:=j) f λa C=>Y ?_;refine Z5 e rfl C rfl (Y ?_);refine VB rfl rfl h (Y ?_);refine VN e rfl rfl (xT g h) (Y ?_);refine VB rfl rfl h (Y ?_);refine VN e rfl rfl (xT g h) (Y ?_);have W:=Bh (λi=>(b.aF.getD i ⟨0,0,0,0,0⟩).bl-g.get i) f;have X:=Bh (λi=>(b.aF.getD i ⟨0,0,0,0,0⟩).bh-(b.aF.getD i ⟨0,0,0,0,0⟩).w-g.get i) f;have ed:b.aF.getD j ⟨0,0,0,0,0⟩=b.aF[j]:=by simp[qAl,f]
  simp only[ed]at W X;have l5:((VP b g).take j).length=j:=by simp[VP];omega
  have l6:((VQ b g).take j).length=j:=by simp[VQ];omega
  refine Z0 (cs:=[vi (b.aF[j].bl-g.get j)]) e rfl λr1 k=>?_;refine EG rfl (Y ?_);refine OZ (l':=[b.aF[j].bl-g.get j]) (bL eW) (bL eW) (bH t3) rfl (by decide) (R.trans (Yd k)) (u.ins k) vK rfl (by rw[l5];simp;omega) O rfl rfl e λN H2 A G T c2=>?_;obtain⟨L,F⟩:=(u.ins k).eT (K.ins k) D c2;have n:P.still H2.gh=false:=by rw[G.gh];exact q
  refine EG c2.gh (Y ?_);refine Z0 (cs:=[vi (b.aF[j].bh-b.aF[j].w-g.get j)]) n rfl λr2 l=>?_;refine EG rfl (Y ?_);refine OZ (l':=[b.aF[j].bh-b.aF[j].w-g.get j]) (bL eW) (bL eW) (bH t3) rfl (by decide) (G.trans (Yd l)) (L.ins l) vK rfl (by rw[l6];simp;omega) O rfl rfl n λQ S B I M c3=>?_;obtain⟨J,p⟩:=(L.ins l).eT (T.ins l) F.symm c3;have zQ:P.still S.gh=false:=by rw[I.gh];exact q
  refine Y ?_;refine⟨(⟨j+1,O⟩,(N,Q,A,B)),cZ O,⟨I,?_,?_,p.symm⟩,V,V,rfl⟩
  ·show cS H S 3 N (((List.range b.aF.length).map λi=>(b.aF.getD i ⟨0,0,0,0,0⟩).bl-g.get i).take (j+1)) A;rw[W];exact J
  show cS H S 3 Q (((List.range b.aF.length).map λi=>(b.aF.getD i ⟨0,0,0,0,0⟩).bh-(b.aF.getD i ⟨0,0,0,0,0⟩).w-g.get i).take (j+1)) B;rw[X];exact M
 have:j=b.aF.length:=O;subst this;have l5:(VP b g).length=b.aF.length:=by simp[VP]
 have l6:(VQ b g).length=b.aF.length:=by simp[VQ]
 rw[qAz O]at u K;obtain⟨a5,c5,f1,f2⟩:=xI u.own O;obtain⟨a6,c6,f3,f4⟩:=xI K.own O;have s5:=u.sl;have s6:=K.sl;have n5:(VP b g).getD 0 0=(VP b g)[0]:=Z8 O 0;have n6:(VQ b g).getD 0 0=(VQ b g)[0]:=Z8 O 0;subst f1 f3;refine Y ?_;refine V3 s5 rfl rfl rfl (i:=0) O λa C=>Y ?_;refine Zg e rfl C (Y ?_);refine Oh (lo:=1) (bL eW) (bH t3) rfl rfl O (Y ?_);refine V3 s6 rfl rfl rfl (i:=0) O λa C=>Y ?_;refine Zg e rfl C (Y ?_);refine Oh (lo:=1) (bL eW) (bH t3) rfl rfl O (Y ?_);refine Zv (vs:=[vf 70,vi (VP b g)[0],_]) rfl (EU Cc _ f2 (by simp;omega) e) ?_;rintro v _ ⟨rfl,rfl⟩;refine Y ?_;refine Zv (vs:=[vf 71,vi (VQ b g)[0],_]) rfl (EU Db _ f4 (by simp;omega) e) ?_;rintro v _ ⟨rfl,rfl⟩;refine Y ?_;exact⟨R,by rw[YZ,Y1,n5,n6];rfl⟩
end
