import Derived.Test.YtlhomfgcibjccaaGreatDoorP39
set_option linter.all false
section
namespace Go.LL
section
variable{P:aX}{d:Option Nat}{next:aM->Hp->Prop}{σ:aM}{H:Hp}{x y z:Operand}{v:Value}{ty:TypeId}
def iJ{k:IntKind}{m n:Int}{t t2:TypeId}(e1:σ.get x=some (.int k m))(e2:σ.get y=some (.int k n))(c:n≠0)(h:next (σ.set d (.int k (m.tmod n))) H):(bE.bU (.binOp .rem t x y t2) ty).m P d next σ H:=by
 refine Vd (by simp[Op.operands,e1,e2]) ?_ h;have:execOp (λx=>(σ.get x).getD undef) (aR (.binOp .rem t x y t2) ty)=pure (.value (.int k (m.tmod n))):=by simp[execOp,aR,e1,e2,eqGuard,binOp,Op.intDiv,c]
 rw[this];exact λQ g H e=>e
end
end Go.LL
end
open Go Go.LL
namespace Go.Proofs
section
open Go.Z
def mW:Ze:=(sq [o 2 (.aP 2 [2] 0),o 4 (.cY (.const s0))] (sq [l 6 2 5 2,c1 7 47 6,m 5 7] (sq [m 8 5,m 9 1,o 10 (.bU (.convert 5 3 9) 3),m 11 5,le 12 11,o 13 (.bU (.binOp .rem 3 10 12 3) 3),ia 14 1 8 13,ld 15 14,m 4 15] .ret)))
def uH:List Zf:=[(.aK 4)]
def JJ:aJ Tryz.prog 37 2 mW uH:=bD [(2,2)] Tryz.func37
def mE:Ze:=(sq [o 1 (.aP 1 [1,10,23] 0),o 2 (.cY (.const s0))] (sq [o 8 (.aO 26 1 [s0] [(0,(1,(.const s0)))]),m 3 8] (.seq (sq [mi 4 0] (.block 0 (.loop (.seq (sq [m 9 4,f 10 3 1,ln 11 1 10,le 12 11,b 13 .lss 9 12] (.cond 13 .skip (.exit 0))) (.seq (.block 1 (sq [o 5 (.cY (.const s0))] (.seq (sq [mi 6 0] (.block 2 (.loop (.seq (sq [m 16 6,m 17 3,le 18 17,b 19 .lss 16 18] (.cond 19 .skip (.exit 2))) (.seq (.block 3 (sq [mi 7 0] (.block 4 (.loop (.seq (sq [m 22 7,f 23 3 1,ln 24 1 23,le 25 24,b 26 .lss 22 25] (.cond 26 .skip (.exit 4))) (.seq (.block 5 (sq [m 29 3,m 30 6,ia 31 1 29 30,ld 32 31,m 33 7,c2 34 40 32 33,o 35 (.not 34)] (.cond 35 (.aI [m 36 5,o 37 (.raw (.buildSlice 26 0 #[]) 26),m 38 3,m 39 6,ia 40 1 38 39,ld 41 40,o 42 (.raw (.call (.mk (.builtin .append) #[37,41] #[26,26])) 26),m 43 7,o 44 (.aO 3 1 [z0] [(0,(1,43))]),o 45 (.raw (.call (.mk (.builtin .append) #[42,44] #[26,26])) 26),o 46 (.aO 26 1 [s0] [(0,(1,45))]),o 47 (.raw (.call (.mk (.builtin .append) #[36,46] #[68,68])) 68),m 5 47]) .skip))) (.aI [m 27 7,bk 28 .add 27 1,m 7 28]))))))) (.aI [m 20 6,bk 21 .add 20 1,m 6 21])))))) (.aI [m 48 5,m 3 48])))) (.aI [m 14 4,bk 15 .add 14 1,m 4 15])))))) (sq [m 49 3,m 2 49] .ret))))
def uJ:List Zf:=[(.aK 2)]
def JL:aJ Tryz.prog 47 1 mE uJ:=bD [(1,1),(10,1),(23,1)] Tryz.func47
def mF:Ze:=(sq [o 2 (.aP 2 [2,12,18] 0),o 4 (.aQ 4 [4] [z0,z0,z0,s0,s0])] (sq [l 9 2 5 2,o 5 (.aQ 5 [5,10,39,44] [z0,z0,z0,s0,s0]),ls 5 5 5 9] (sq [f 10 4 5,u (.qU 5 1 10 (.const s0))] (.seq (sq [mi 6 0] (.block 0 (.loop (.seq (sq [m 11 6,f 12 4 2,ln 13 2 12,le 14 13,b 15 .lss 11 14] (.cond 15 .skip (.exit 0))) (.seq (.block 1 (sq [f 18 4 2,ln 19 2 18,m 20 6,ia 21 3 19 20,lm 22 3 21,o 7 (.aQ 7 [7,24,28,29,33,34,38] [s0,z0,z0]),ls 7 3 7 22] (sq [m 23 1,f 24 0 7,ln 25 7 24,c2 26 135 23 25,m 8 26] (sq [m 27 8,f 28 1 7,f 29 0 28,ln 30 7 29,o 31 (.bU (.call (.mk (.builtin .min) #[27,30] #[3,3])) 3),m 32 8,f 33 1 7,f 34 1 33,ln 35 7 34,o 36 (.bU (.call (.mk (.builtin .max) #[32,35] #[3,3])) 3),c2 37 43 31 36,f 38 1 7,ls 7 2 38 37] (.aI [f 39 4 5,ln 40 5 39,l 41 7 3 7,o 42 (.aO 85 1 [s0,z0,z0] [(0,(3,41))]),o 43 (.raw (.call (.mk (.builtin .append) #[40,42] #[23,23])) 23),f 44 4 5,ls 5 1 44 43]))))) (.aI [m 16 6,bk 17 .add 16 1,m 6 17])))))) (sq [l 45 5 5 5,ls 4 5 4 45] .ret)))))
def uL:List Zf:=[(.jH 4 4 (some 5))]
def JN:aJ Tryz.prog 77 2 mF uL:=bD [(2,2),(4,4),(5,5),(7,7),(10,5),(12,2),(18,2),(24,7),(28,7),(29,7),(33,7),(34,7),(38,7),(39,5),(44,5)] Tryz.func77
def mG:Ze:=(sq [m0 4] (sq [m 5 0,bk 6 .neq 5 1,m 7 6,mf 7 8 1,po 9 7 8,m 10 9,mt 10 11 0,gt 10 12 (.aY .neq 11 (k 2)),mt 10 13 12,mf 13 14 1,gf 13 15 (.not 14),gt 10 16 (.pick 13 k1 15),pa 17 10 16,m 4 17] .ret))
def sO:List Zf:=[(.aK 4)]
def JO:aJ Tryz.prog 78 2 mG sO:=bD [] Tryz.func78
def lT:Ze:=(sq [o 2 (.aP 2 [2,8,15] 0),o 4 (.cY (.const s0))] (sq [o 5 (.cY (.const s0))] (.seq (sq [mi 6 0] (.block 0 (.loop (.seq (sq [m 7 6,f 8 3 2,ln 9 2 8,le 10 9,b 11 .lss 7 10] (.cond 11 .skip (.exit 0))) (.seq (.block 1 (.drawn [m 14 5,f 15 3 2,ln 16 2 15,m 17 6,ia 18 5 16 17,o 19 (.aN 1 18),lm 20 2 19,m 21 1,m 22 6,(c2 23 110 21 22,(some true)),(c2 24 109 20 23,(some false)),(o 25 (.aO 3 1 [z0] [(0,(1,24))]),(some false)),(o 26 (.raw (.call (.mk (.builtin .append) #[14,25] #[26,26])) 26),none),m 5 26])) (.aI [m 12 6,bk 13 .add 12 1,m 6 13])))))) (sq [m 27 5,m 4 27] .ret))))
def uI:List Zf:=[(.aK 4)]
def JK:aJ Tryz.prog 44 2 lT uI:=bD [(2,2),(8,2),(15,2)] Tryz.func44
def mH:Ze:=(sq [o 2 (.aP 2 [2,8] 0),mi 4 0] (.seq (sq [m 6 1,le 7 6,f 8 3 2,ln 9 2 8,le 10 9,b 11 .neq 7 10] (.cond 11 (sq [mi 4 2] .ret) .skip)) (.seq (sq [mi 5 0] (.block 0 (.loop (.seq (sq [m 12 5,m 13 1,le 14 13,b 15 .lss 12 14] (.cond 15 .skip (.exit 0))) (.seq (.block 1 (.seq (.seq (.drawn [l 18 2 5 2,m 19 1,m 20 5,ia 21 1 19 20,ld 22 21,c2 23 89 18 22,o 24 (.not 23)]) (.cond 24 (sq [mi 4 6] .ret) .skip)) (.seq (.drawn [m 25 1,m 26 5,o 27 (.bU (.slice 26 25 none (some 26) none) 26),m 28 1,m 29 5,ia 30 1 28 29,ld 31 30,c2 32 40 27 31]) (.cond 32 (sq [mi 4 5] .ret) .skip)))) (.aI [m 16 5,bk 17 .add 16 1,m 5 17])))))) (sq [mi 4 0] .ret))))
def sP:List Zf:=[(.aK 4)]
def EQ:aJ Tryz.prog 79 2 mH sP:=bD [(2,2),(8,2)] Tryz.func79
def lV:Ze:=(sq [o 2 (.aP 2 [2,6] 0),m0 4] (sq [m 5 1,f 6 3 2,ln 7 2 6,le 8 7,bk 9 .sub 8 1,o 10 (.call 50 [5,(k 0),9]),m 4 10] .ret))
def sQ:List Zf:=[(.aK 4)]
def ER:aJ Tryz.prog 89 2 lV sQ:=bD [(2,2),(6,2)] Tryz.func89
def lW:Ze:=(sq [o 2 (.aP 2 [2,5,8,10] 0),mi 4 0] (.seq (.drawn [f 5 0 2,ln 6 2 5,m 7 1,f 8 1 2,ln 9 2 8,f 10 0 2,ln 11 2 10,b 12 .sub 9 11,bk 13 .add 12 1,o 14 (.bU (.binOp .rem 3 7 13 3) 3),b 15 .add 6 14,m 4 15]) .ret))
def sR:List Zf:=[(.aK 4)]
def ET:aJ Tryz.prog 109 2 lW sR:=bD [(2,2),(5,2),(8,2),(10,2)] Tryz.func109
def l8:Ze:=(sq [m0 4] (.seq (sq [mi 5 0] (.block 0 (.loop (.seq (sq [m 6 5,m 7 0,le 8 7,b 9 .lss 6 8] (.cond 9 .skip (.exit 0))) (.seq (.block 1 (sq [m 12 0,m 13 5,ia 14 1 12 13,ld 15 14,m 16 1,b 17 .eql 15 16] (.cond 17 (sq [m1 4] .ret) .skip))) (.aI [m 10 5,bk 11 .add 10 1,m 5 11])))))) (sq [m0 4] .ret)))
def rU:List Zf:=[(.aK 4)]
def sE:aJ Tryz.prog 40 2 l8 rU:=bD [] Tryz.func40
def lU:Ze:=(sq [o 2 (.aP 2 [2,29] 0),m0 4,mi 5 0] (.seq (sq [l 13 2 5 2,c1 14 71 13,m 6 14] (sq [m 15 6,bk 16 .neq 15 0] (.cond 16 (sq [m 17 6,m0 4,m 5 17] .ret) .skip))) (sq [l 18 2 5 2,o 19 (.build [z0,z0,z0,s0,s0] [(0,(5,18))]),o 7 (.aQ 7 [7] [z0,z0,z0,s0,s0]),ls 7 5 7 19] (.seq (sq [l 20 7 5 7,m 21 1,c2 22 130 20 21,m 8 22] (sq [m 23 8,bk 24 .neq 23 0] (.cond 24 (sq [m 25 8,m0 4,m 5 25] .ret) .skip))) (sq [m 26 1,c1 27 131 26,o 9 (.aQ 9 [9,39] [z0,z0,z0,z0]),ls 9 4 9 27] (sq [l 28 9 4 9,o 10 (.aQ 10 [10,49] [z0,z0,z0,z0]),ls 10 4 10 28] (.seq (sq [f 29 3 2,ln 30 2 29,le 31 30,mi 32 0] (.block 0 (.loop (sq [b 33 .lss 32 31] (.seq (.cond 33 .skip (.exit 0)) (.seq (.block 1 (.seq (.aI [m 34 32,ia 35 5 30 32,lm 36 5 35,o 12 (.aQ 12 [12,41,42,45,46] [(.string (.mk #[])),z0,z0,z0,z0]),m 11 34,ls 12 5 12 36]) (.drawn [m 37 11,m 38 11,o 39 (.fC 1 4 9 38),ln 40 9 39,f 41 1 12,f 42 0 41,ln 43 12 42,(o 44 (.bU (.call (.mk (.builtin .max) #[40,43] #[3,3])) 3),none),f 45 1 12,f 46 1 45,ln 47 12 46,(o 48 (.bU (.call (.mk (.builtin .min) #[44,47] #[3,3])) 3),none),o 49 (.fC 1 4 10 37),ls 10 1 49 48]))) (.aI [bk 50 .add 32 1,m 32 50]))))))) (sq [l 51 10 4 10,l 52 9 4 9,o 53 (.bU (.binOp .eql 105 51 52 105) 4),m 54 53,gt 54 55 (.dA 7 (some 5) 7),gt 54 56 (.dA 9 (some 4) 9),gt 54 57 (.call 132 [55,56]),pa 58 54 57,m 4 58,mi 5 0] .ret))))))))
def uK:List Zf:=[(.aK 4),(.aK 5)]
def JM:aJ Tryz.prog 75 2 lU uK:=bD [(2,2),(7,7),(9,9),(10,10),(12,12),(29,2),(39,9),(41,12),(42,12),(45,12),(46,12),(49,10)] Tryz.func75
def AZ:Ze:=(sq [mi 4 0] (.seq (sq [m 5 1,bk 6 .geq 5 0,m 7 6,mt 7 8 1,mt 7 9 0,gt 7 10 (.len 9),gt 7 11 (.aY .lss 8 10),pa 12 7 11] (.cond 12 (sq [m 13 0,m 14 1,ia 15 1 13 14,ld 16 15,o 17 (.bU (.convert 199 3 16) 3),m 4 17] .ret) .skip)) (sq [mi 4 0] .ret)))
def GF:List Zf:=[(.aK 4)]
def HY:aJ Tryz.prog 110 2 AZ GF:=bD [] Tryz.func110
def mI:Ze:=(sq [mi 4 0] (sq [mi 5 0] (.seq (sq [mi 6 0] (.block 0 (.loop (.seq (sq [m 7 6,m 8 1,le 9 8,b 10 .lss 7 9] (.cond 10 .skip (.exit 0))) (.seq (.block 1 (.aI [m 13 5,m 14 0,m 15 1,m 16 6,ia 17 1 15 16,ld 18 17,ia 19 1 14 18,ld 20 19,b 21 .add 13 20,m 5 21])) (.aI [m 11 6,bk 12 .add 11 1,m 6 12])))))) (sq [m 22 5,m 4 22] .ret))))
def rH:List Zf:=[(.aK 4)]
def ES:aJ Tryz.prog 135 2 mI rH:=bD [] Tryz.func135
def mV:Ze:=(sq [o 1 (.aP 1 [1] 0),m0 2] (sq [l 3 1 5 1,c1 4 17 3,o 5 (.not 4),m 6 5,gt 6 7 (.dA 1 (some 5) 1),gt 6 8 (.call 67 [7]),gt 6 9 (.aY .eql 8 (k 0)),pa 10 6 9,m 2 10] .ret))
def uG:List Zf:=[(.aK 2)]
def JI:aJ Tryz.prog 36 1 mV uG:=bD [(1,1)] Tryz.func36
end
section
variable{a b:Bool}
def y0:CY Tryz.prog 105=false:=U
section
variable{P:aX}[Tz P]{H:Hp}{d:Option Nat}{next:aM->Hp->Prop}{σ:aM}{x y:Operand}{ty t2:TypeId}{v:Value}
def yU(d:Nat)(Q:Bool->Bool->Hp->Prop)(g:Bool)(H:Hp)(c:Q (a == b) g H):bL P.toPQ (Op.equalIn (d+1) 4 (vb a) (vb b)) Q g H:=by simp only[Op.equalIn,Zg,Zw (bI (P:=P) F6),Zj];exact c
def CH(Q:Bool->Bool->Hp->Prop)(g:Bool)(H:Hp)(c:Q (a == b) g H):bL P.toPQ (Op.equalIn (9999+1) 4 (vb a) (vb b)) Q g H:=yU 9999 Q g H c
def lM{a b:Bool}(c:σ.get x=some (vb a))(e:σ.get y=some (vb b))(h:next (σ.set d (vb (a != b))) H):(bE.bU (.binOp .neq 4 x y t2) ty).m P d next σ H:=by
 refine Vd (by simp[Op.operands,c,e]) ?_ h;have:execOp (λx=>(σ.get x).getD undef) (aR (.binOp .neq 4 x y t2) ty)=(do let v <-(do eqGuard .neq 4 x y (vb a) (vb b);binOp .neq 4 (vb a) (vb b));pure (.value v)):=by simp[execOp,aR,c,e]
 rw[this];refine Uq λQ g H f=>?_;simp only[eqGuard,Zg,Zj];exact Zg.2 (CH _ _ _ f)
end
def nW(l:List Int):∀n,(Z8 l n).length<=n
 | 0=>dO 0
 | n+1=>by
  have:=nW l n;unfold Z8;split
  ·omega
  simp;omega
end
section
open Go.Z
def lS:Ze:=(sq [o 4 (.aP 4 [4,56,223,250,294] 0),m0 8] (.seq (sq [l 41 4 5 4,c1 42 36 41,o 43 (.not 42)] (.cond 43 (sq [c0 44 18,m 8 44] .ret) .skip)) (sq [l 45 4 5 4,m 46 1,c2 47 44 45 46,m 9 47] (sq [l 48 4 5 4,m 49 9,c2 50 77 48 49,ls 4 5 4 50] (.seq (.drawn [l 51 4 5 4,m 52 2,m 54 3,o 55 (.bU (.convert 5 3 54) 3),f 56 3 4,ln 57 4 56,le 58 57,o 59 (.bU (.binOp .rem 3 55 58 3) 3),(c2 53 37 51 52,(some false)),m 10 53,m 11 59]) (sq [l 61 4 5 4,m 62 9,c2 63 75 61 62,m 60 63,x 64 60 0,x 65 60 1,m 12 64,m 13 65] (sq [l 67 4 5 4,c1 68 19 67,m 66 68,x 69 66 0,x 70 66 1,m 14 69,m 15 70] (sq [l 72 4 5 4,c1 73 54 72,m 71 73,x 74 71 0,x 75 71 1,m 16 74,m 17 75] (sq [l 77 4 5 4,m 78 11,c2 79 21 77 78,m 76 79,x 80 76 0,x 81 76 1,m 18 80,m 19 81] (sq [l 83 4 5 4,m 84 10,c2 85 24 83 84,m 82 85,x 86 82 0,x 87 82 1,o 20 (.aQ 20 [20,201,203,312] [z0,z0]),ls 20 2 20 86,m 21 87] (sq [l 89 4 5 4,m 90 9,m 91 10,c3 92 73 89 90 91,m 88 92,x 93 88 0,x 94 88 1,m 22 93,m 23 94] (sq [l 96 4 5 4,m 97 9,m 98 10,c3 99 46 96 97 98,m 95 99,x 100 95 0,x 101 95 1,m 24 100,m 25 101] (sq [l 103 4 5 4,m 104 10,m 105 11,c3 106 26 103 104 105,m 102 106,x 107 102 0,x 108 102 1,m 26 107,m 27 108] (sq [l 110 4 5 4,m 111 10,c2 112 28 110 111,m 109 112,x 113 109 0,x 114 109 1,m 28 113,m 29 114] (sq [l 116 4 5 4,c1 117 32 116,m 115 117,x 118 115 0,x 119 115 1,x 120 115 2,x 121 115 3,o 31 (.aQ 31 [31,300,302,310] [z0,z0]),m 30 118,ls 31 2 31 119,m 32 120,m 33 121] (sq [l 123 4 5 4,c1 124 30 123,m 122 124,x 125 122 0,x 126 122 1,m 34 125,m 35 126] (sq [l 128 4 5 4,c1 129 34 128,m 127 129,x 130 127 0,x 131 127 1,x 132 127 2,m 36 130,m 37 131,m 38 132] (.seq (sq [m 133 13,bk 134 .neq 133 0,m 135 134,mf 135 136 15,gf 135 137 (.aY .neq 136 (k 0)),po 138 135 137,m 139 138,mf 139 140 17,gf 139 141 (.aY .neq 140 (k 0)),po 142 139 141,m 143 142,mf 143 144 19,gf 143 145 (.aY .neq 144 (k 0)),po 146 143 145,m 147 146,mf 147 148 21,gf 147 149 (.aY .neq 148 (k 0)),po 150 147 149,m 151 150,mf 151 152 23,gf 151 153 (.aY .neq 152 (k 0)),po 154 151 153,m 155 154,mf 155 156 25,gf 155 157 (.aY .neq 156 (k 0)),po 158 155 157,m 159 158,mf 159 160 27,gf 159 161 (.aY .neq 160 (k 0)),po 162 159 161,m 163 162,mf 163 164 29,gf 163 165 (.aY .neq 164 (k 0)),po 166 163 165,m 167 166,mf 167 168 33,gf 167 169 (.aY .neq 168 (k 0)),po 170 167 169,m 171 170,mf 171 172 35,gf 171 173 (.aY .neq 172 (k 0)),po 174 171 173,m 175 174,mf 175 176 38,gf 175 177 (.aY .neq 176 (k 0)),po 178 175 177] (.cond 178 (sq [m0 8] .ret) .skip)) (.seq (sq [m 179 12,o 180 (.not 179),m 181 180,mf 181 182 14,gf 181 183 (.aY .lss 182 (k 1)),po 184 181 183,m 185 184,mf 185 186 16,gf 185 187 (.len 186),gf 185 188 (.aY .gtr 187 (k 0)),po 189 185 188,m 190 189,mf 190 191 18,mf 190 192 9,mf 190 193 11,gf 190 194 (.bQ 1 192 193),gf 190 195 (.ld none 194),gf 190 196 (.call 40 [191,195]),gf 190 197 (.not 196),po 198 190 197,m 199 198,mf 199 200 22,gf 199 201 (.aU 0 20),gf 199 202 (.dA 20 none 201),gf 199 203 (.aU 1 20),gf 199 204 (.dA 20 none 203),gf 199 205 (.call 50 [200,202,204]),gf 199 206 (.not 205),po 207 199 206,m 208 207,mf 208 209 26,mf 208 210 24,mf 208 211 11,gf 208 212 (.call 40 [210,211]),gf 208 213 (.call 78 [209,212]),gf 208 214 (.not 213),po 215 208 214,m 216 215,mf 216 217 28,mf 216 218 24,gf 216 219 (.len 218),gf 216 220 (.aY .eql 219 (k 0)),mf 216 221 220,mt 221 222 22,gt 221 223 (.aU 2 4),gt 221 224 (.dA 4 none 223),gt 221 225 (.aY .leq 222 224),gf 216 226 (.pick 221 225 k0),gf 216 227 (.call 78 [217,226]),gf 216 228 (.not 227),po 229 216 228,m 230 229,mf 230 231 32,mf 230 232 34,gf 230 233 (.aY .gtr 232 (k 0)),gf 230 234 (.bU (.binOp .neq 4 231 233 4) 4),po 235 230 234,m 236 235,mf 236 237 32,mf 236 238 237,mt 238 239 37,gt 238 240 (.not 239),gf 236 241 (.pick 238 240 k0),po 242 236 241,m 243 242,mf 243 244 37,mf 243 245 244,mt 245 246 32,gf 243 247 (.pick 245 246 k0),mf 243 248 247,mt 248 249 36,gt 248 250 (.aU 1 4),gt 248 251 (.dA 4 none 250),gt 248 252 (.aY .gtr 249 251),gf 243 253 (.pick 248 252 k0),po 254 243 253] (.cond 254 (sq [m0 8] .ret) .skip)) (.seq (sq [m 255 32,o 256 (.not 255)] (.cond 256 (sq [m 257 30,le 258 257,bk 259 .eql 258 0,m 260 259,gt 260 261 (.call 18 []),pa 262 260 261,m 8 262] .ret) .skip)) (.seq (sq [l 263 4 5 4,m 264 30,c2 265 79 263 264,bk 266 .neq 265 0] (.cond 266 (sq [m0 8] .ret) .skip)) (sq [l 268 4 5 4,m 269 9,m 270 30,c3 271 73 268 269 270,m 267 271,x 272 267 0,x 273 267 1,m 39 272,m 13 273] (sq [l 275 4 5 4,m 276 9,m 277 30,c3 278 46 275 276 277,m 274 278,x 279 274 0,x 280 274 1,m 40 279,m 15 280] (sq [m 281 13,bk 282 .eql 281 0,m 283 282,mt 283 284 15,gt 283 285 (.aY .eql 284 (k 0)),pa 286 283 285,m 287 286,mt 287 288 40,gt 287 289 (.len 288),gt 287 290 (.aY .eql 289 (k 0)),pa 291 287 290,m 292 291,mt 292 293 39,gt 292 294 (.aU 2 4),gt 292 295 (.dA 4 none 294),gt 292 296 (.aY .leq 293 295),pa 297 292 296,m 298 297,mt 298 299 39,gt 298 300 (.aU 0 31),gt 298 301 (.dA 31 none 300),gt 298 302 (.aU 1 31),gt 298 303 (.dA 31 none 302),gt 298 304 (.call 50 [299,301,303]),pa 305 298 304,m 306 305,mt 306 307 28,gt 306 308 (.aY .neq 307 (k 1)),mt 306 309 308,gf 309 310 (.aU 1 31),gf 309 311 (.dA 31 none 310),gf 309 312 (.aU 1 20),gf 309 313 (.dA 20 none 312),gf 309 314 (.aY .leq 311 313),gt 306 315 (.pick 309 k1 314),pa 316 306 315,m 317 316,gt 317 318 (.call 18 []),pa 319 317 318,m 8 319] .ret))))))))))))))))))))))))
def kY:List Zf:=[(.aK 8)]
def JH:aJ Tryz.prog 16 4 lS kY:=bD [(4,4),(20,20),(31,31),(56,4),(201,20),(203,20),(223,4),(250,4),(294,4),(300,31),(302,31),(310,31),(312,20)] Tryz.func16
end
variable{α:Type}{H:Hp}{r:Nat}{E:TypeId}
def wA[Enc α]{l:List α}(c:H r=none):dD H (H.ins r (.cells (Zb l).toArray E)) E (.slice (some ⟨r,0,none⟩) l.length l.length) l (some r):=
 ⟨⟨VH l,.inr ⟨r,l.length,[],rfl,rfl,by rw[qAf];exact Hp.aG _ _ _,by rw[qAf];exact VH l,dO _⟩⟩,λf e=>by obtain rfl:=iO e;exact c⟩
def wB[Enc α](c:H r=none):dD H (H.ins r (.cells #[] E)) E (.slice (some ⟨r,0,none⟩) 0 0) ([]:List α) (some r):=wA (l:=([]:List α)) c
def nK{l:List Int}(h:l.Pairwise (·<=·)):∀n,n<=l.length->(Z8 l n).Pairwise (·<·)/\(∀z,z∈Z8 l n↔z∈l.take n)/\(∀z∈Z8 l n,z<=el l (n-1))
 | 0,_=>⟨.nil,λz=>by simp[Z8],λz e=>by simp[Z8]at e⟩
 | n+1,D=>by
  obtain⟨p,q,k⟩:=nK h n O;have f:∀i j,i<=j->j<l.length->el l i<=el l j:=by
   intro i j C s;rw[Uu O,Uu s];rcases qBi i j with m | m
   ·exact qAY.1 h i j O s m
   have:i=j:=O;subst this;exact qAx _
  rw[CB O];by_cases o:n=0
  ·subst o;rw[PT];exact⟨qAS _ _,λz=>by simp,λz e=>by rw[oR.1 e];exact qAx _⟩
  by_cases g:el l n=el l (n-1)
  ·rw[KN o g];refine⟨p,λz=>?_,λz e=>?_⟩
   ·rw[q,qAi,oR];constructor
    ·exact .inl
    rintro(e | rfl)
    ·exact e
    rw[g];have t:n=(n-1)+1:=O;rw[t,CB O];simp
   have:=k z e;rw[qAU,g];exact this
  rw[KO g];refine⟨?_,λz=>?_,λz e=>?_⟩
  ·rw[qBn];refine⟨p,qAS _ _,λa A c B=>?_⟩;rw[oR.1 B];have u:=k a A;have w:=f (n-1) n O O;omega
  ·rw[qAi,q,qAi]
  rw[qAU];rcases qAi.1 e with e | e
  ·have u:=k z e;have w:=f (n-1) n O O;omega
  rw[oR.1 e];exact qAx _
