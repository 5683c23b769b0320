import Derived.Test.YtlhomfgcibjccaaGreatDoorP39
set_option linter.all false
section
namespace Go.LL
section
variable{P:aX}{d:Option Nat}{r:List NI}{op:bE}{Q:aM->Hp->Prop}{next:aM->Hp->Prop}{σ:aM}{H:Hp}{x y z:Operand}{v:Value}
variable{l:List (NI×Option Bool)}
def yO{f:Option Bool}{t:Nat}{b:Bool}(i:P.still H.gh=false)(e:σ.env t=some undef)(h:ZT P l Q (σ.fB d) H):ZT P ((⟨some (t,b),d,op⟩,f) :: l) Q σ H:=by cases b<;>(simp only[ZT,e,undef];exact⟨i,h⟩)
variable{Qe:Ex->aM->Hp->Prop}{a b c:Ze}
end
section
variable{P:aX}{d:Option Nat}{next:aM->Hp->Prop}{σ:aM}{H:Hp}{x y z:Operand}{v:Value}{ty:TypeId}
def iZ{k:IntKind}{m n:Int}{t i:TypeId}(e:σ.get x=some (.int k m))(f:σ.get y=some (.int k n))(j:n≠0)(h:next (σ.set d (.int k (m.tmod n))) H):(bE.bU (.binOp .rem t x y i) ty).m P d next σ H:=by
 refine Vd (by simp[Op.operands,e,f]) ?_ h;have:execOp (λx=>(σ.get x).getD undef) (aR (.binOp .rem t x y i) ty)=pure (.value (.int k (m.tmod n))):=by simp[execOp,aR,e,f,eqGuard,binOp,Op.intDiv,j]
 rw[this];exact λQ g H o=>o
end
end Go.LL
end
open Go Go.LL
namespace Go.Proofs
section
open Go.Z
def mW:Ze:=(sq [o 2 (.aP 2 [2] 0),o 4 (.cY (.const s0))] (sq [l 6 2 5 2,c1 7 47 6,m 5 7] (sq [m 8 5,m 9 1,o 10 (.bU (.convert 5 3 9) 3),m 11 5,le 12 11,o 13 (.bU (.binOp .rem 3 10 12 3) 3),ia 14 1 8 13,ld 15 14,m 4 15] .ret)))
def rI:List Zf:=[(.aK 4)]
def yX:aJ Tryz.prog 37 2 mW rI:=bD [(2,2)] Tryz.func37
def mE:Ze:=(sq [o 3 (.aP 3 [3,10] 0),o 5 (.aP 5 [5] 2),o 6 (.aQ 6 [6] [z0,z0,z0,s0,s0])] (sq [l 8 3 5 3,o 7 (.aQ 7 [7,13,14] [z0,z0,z0,s0,s0]),ls 7 5 7 8] (sq [o 9 (.raw (.buildSlice 22 0 #[]) 22),f 10 3 3,ln 11 3 10,o 12 (.raw (.call (.mk (.builtin .append) #[9,11] #[22,22])) 22),f 13 3 7,ls 7 1 13 12] (sq [f 14 3 7,ln 15 7 14,m 16 1,l 17 5 2 5,ia 18 5 15 16,o 19 (.aN 1 18),st 36 19 17 0] (sq [l 20 7 5 7,ls 6 5 6 20] .ret)))))
def sH:List Zf:=[(.jH 6 6 (some 5))]
def yZ:aJ Tryz.prog 42 3 mE sH:=bD [(3,3),(5,5),(6,6),(7,7),(10,3),(13,7),(14,7)] Tryz.func42
def lU:Ze:=(sq [o 1 (.aP 1 [1,10,23] 0),o 2 (.cY (.const s0))] (sq [o 8 (.aO 26 1 [s0] [(0,(1,(.const s0)))]),m 3 8] (.seq (sq [mi 4 0] (.block 0 (.loop (.seq (sq [m 9 4,f 10 3 1,ln 11 1 10,le 12 11,b 13 .lss 9 12] (.cond 13 .skip (.exit 0))) (.seq (.block 1 (sq [o 5 (.cY (.const s0))] (.seq (sq [mi 6 0] (.block 2 (.loop (.seq (sq [m 16 6,m 17 3,le 18 17,b 19 .lss 16 18] (.cond 19 .skip (.exit 2))) (.seq (.block 3 (sq [mi 7 0] (.block 4 (.loop (.seq (sq [m 22 7,f 23 3 1,ln 24 1 23,le 25 24,b 26 .lss 22 25] (.cond 26 .skip (.exit 4))) (.seq (.block 5 (sq [m 29 3,m 30 6,ia 31 1 29 30,ld 32 31,m 33 7,c2 34 40 32 33,o 35 (.not 34)] (.cond 35 (.aI [m 36 5,o 37 (.raw (.buildSlice 26 0 #[]) 26),m 38 3,m 39 6,ia 40 1 38 39,ld 41 40,o 42 (.raw (.call (.mk (.builtin .append) #[37,41] #[26,26])) 26),m 43 7,o 44 (.aO 3 1 [z0] [(0,(1,43))]),o 45 (.raw (.call (.mk (.builtin .append) #[42,44] #[26,26])) 26),o 46 (.aO 26 1 [s0] [(0,(1,45))]),o 47 (.raw (.call (.mk (.builtin .append) #[36,46] #[68,68])) 68),m 5 47]) .skip))) (.aI [m 27 7,bk 28 .add 27 1,m 7 28]))))))) (.aI [m 20 6,bk 21 .add 20 1,m 6 21])))))) (.aI [m 48 5,m 3 48])))) (.aI [m 14 4,bk 15 .add 14 1,m 4 15])))))) (sq [m 49 3,m 2 49] .ret))))
def rD:List Zf:=[(.aK 2)]
def y0:aJ Tryz.prog 47 1 lU rD:=bD [(1,1),(10,1),(23,1)] Tryz.func47
def mF:Ze:=(sq [m0 4] (.seq (sq [mi 5 0] (.block 0 (.loop (.seq (sq [m 6 5,m 7 0,le 8 7,b 9 .lss 6 8] (.cond 9 .skip (.exit 0))) (.seq (.block 1 (sq [m 12 1,m 13 0,m 14 5,ia 15 1 13 14,ld 16 15,c2 17 40 12 16,o 18 (.not 17)] (.cond 18 (sq [m0 4] .ret) .skip))) (.aI [m 10 5,bk 11 .add 10 1,m 5 11])))))) (sq [m1 4] .ret)))
def sI:List Zf:=[(.aK 4)]
def y4:aJ Tryz.prog 53 2 mF sI:=bD [] Tryz.func53
def mG:Ze:=(sq [o 2 (.aP 2 [2,13,19] 0),o 3 (.aP 3 [3] 1),o 4 (.aQ 4 [4] [z0,z0,z0,s0,s0]),mi 5 0] (.seq (sq [l 7 2 5 2,c1 8 71 7,m 6 8] (sq [m 9 6,bk 10 .neq 9 0] (.cond 10 (sq [o 11 (.build [z0,z0,z0,s0,s0] []),m 12 6,ls 4 5 4 11,m 5 12] .ret) .skip))) (.seq (.drawn [f 13 4 2,ln 14 2 13,l 16 3 3 3,u (.build [s0,z0,z0] [(0,(3,16))]),(c1 15 123 14,(some false)),(o 17 (.aO 85 1 [s0,z0,z0] [(0,(3,16))]),(some false)),(o 18 (.raw (.call (.mk (.builtin .append) #[15,17] #[23,23])) 23),none),f 19 4 2,ls 2 1 19 18]) (sq [l 20 2 5 2,c1 21 108 20,x 22 21 0,x 23 21 1,ls 4 5 4 22,m 5 23] .ret))))
def sJ:List Zf:=[(.jH 4 4 (some 5)),(.aK 5)]
def y5:aJ Tryz.prog 63 2 mG sJ:=bD [(2,2),(3,3),(4,4),(13,2),(19,2)] Tryz.func63
def mH:Ze:=(sq [o 4 (.aP 4 [4,40] 0),o 5 (.aP 5 [5] 1),m0 8] (.seq (.drawn [l 35 4 5 4,m 36 2,m 38 3,o 39 (.bU (.convert 5 3 38) 3),f 40 3 4,ln 41 4 40,le 42 41,o 43 (.bU (.binOp .rem 3 39 42 3) 3),(c2 37 37 35 36,(some false)),m 9 37,m 10 43]) (sq [l 45 4 5 4,c1 46 19 45,m 44 46,x 47 44 0,x 48 44 1,m 11 47,m 12 48] (sq [l 50 5 5 5,c1 51 19 50,m 49 51,x 52 49 0,x 53 49 1,m 13 52,m 14 53] (sq [l 55 4 5 4,m 56 10,c2 57 21 55 56,m 54 57,x 58 54 0,x 59 54 1,m 15 58,m 16 59] (sq [l 61 5 5 5,m 62 10,c2 63 21 61 62,m 60 63,x 64 60 0,x 65 60 1,m 17 64,m 18 65] (sq [l 67 4 5 4,m 68 9,c2 69 24 67 68,m 66 69,x 70 66 0,x 71 66 1,o 19 (.aQ 19 [19,169,178] [z0,z0]),ls 19 2 19 70,m 20 71] (sq [l 73 5 5 5,m 74 9,c2 75 24 73 74,m 72 75,x 76 72 0,x 77 72 1,o 21 (.aQ 21 [21,171,176] [z0,z0]),ls 21 2 21 76,m 22 77] (sq [l 79 4 5 4,m 80 9,c2 81 28 79 80,m 78 81,x 82 78 0,x 83 78 1,m 23 82,m 24 83] (sq [l 85 5 5 5,m 86 9,c2 87 28 85 86,m 84 87,x 88 84 0,x 89 84 1,m 25 88,m 26 89] (sq [l 91 4 5 4,m 92 9,m 93 10,c3 94 26 91 92 93,m 90 94,x 95 90 0,x 96 90 1,m 27 95,m 28 96] (sq [l 98 5 5 5,m 99 9,m 100 10,c3 101 26 98 99 100,m 97 101,x 102 97 0,x 103 97 1,m 29 102,m 30 103] (sq [l 105 4 5 4,c1 106 30 105,m 104 106,x 107 104 0,x 108 104 1,m 31 107,m 32 108] (sq [l 110 5 5 5,c1 111 30 110,m 109 111,x 112 109 0,x 113 109 1,m 33 112,m 34 113] (.seq (sq [m 114 12,bk 115 .neq 114 0,m 116 115,mf 116 117 14,gf 116 118 (.aY .neq 117 (k 0)),po 119 116 118,m 120 119,mf 120 121 16,gf 120 122 (.aY .neq 121 (k 0)),po 123 120 122,m 124 123,mf 124 125 18,gf 124 126 (.aY .neq 125 (k 0)),po 127 124 126,m 128 127,mf 128 129 20,gf 128 130 (.aY .neq 129 (k 0)),po 131 128 130,m 132 131,mf 132 133 22,gf 132 134 (.aY .neq 133 (k 0)),po 135 132 134,m 136 135,mf 136 137 24,gf 136 138 (.aY .neq 137 (k 0)),po 139 136 138,m 140 139,mf 140 141 26,gf 140 142 (.aY .neq 141 (k 0)),po 143 140 142,m 144 143,mf 144 145 28,gf 144 146 (.aY .neq 145 (k 0)),po 147 144 146,m 148 147,mf 148 149 30,gf 148 150 (.aY .neq 149 (k 0)),po 151 148 150,m 152 151,mf 152 153 32,gf 152 154 (.aY .neq 153 (k 0)),po 155 152 154,m 156 155,mf 156 157 34,gf 156 158 (.aY .neq 157 (k 0)),po 159 156 158] (.cond 159 (sq [m0 8] .ret) .skip)) (sq [m 160 13,m 161 11,o 162 (.call 50 [160,(k 1),161]),m 163 162,mt 163 164 17,mt 163 165 15,gt 163 166 (.call 53 [164,165]),pa 167 163 166,m 168 167,gt 168 169 (.aU 0 19),gt 168 170 (.dA 19 none 169),gt 168 171 (.aU 0 21),gt 168 172 (.dA 21 none 171),gt 168 173 (.aY .leq 170 172),pa 174 168 173,m 175 174,gt 175 176 (.aU 1 21),gt 175 177 (.dA 21 none 176),gt 175 178 (.aU 1 19),gt 175 179 (.dA 19 none 178),gt 175 180 (.aY .leq 177 179),pa 181 175 180,m 182 181,mt 182 183 23,gt 182 184 (.aY .eql 183 (k 0)),mt 182 185 184,mf 185 186 23,mf 185 187 25,gf 185 188 (.aY .eql 186 187),gt 182 189 (.pick 185 k1 188),pa 190 182 189,m 191 190,mt 191 192 27,gt 191 193 (.aY .eql 192 (k 0)),mt 191 194 193,mf 194 195 27,mf 194 196 29,gf 194 197 (.aY .eql 195 196),gt 191 198 (.pick 194 k1 197),pa 199 191 198,m 200 199,mt 200 201 31,mt 200 202 33,gt 200 203 (.aY .leq 201 202),pa 204 200 203,m 8 204] .ret))))))))))))))))
def sK:List Zf:=[(.aK 8)]
def y6:aJ Tryz.prog 68 4 mH sK:=bD [(4,4),(5,5),(19,19),(21,21),(40,4),(169,19),(171,21),(176,21),(178,19)] Tryz.func68
def MT:Ze:=(sq [o 2 (.aP 2 [2,5,10] 0),o 3 (.aP 3 [3,7,12] 1),o 4 (.aQ 4 [4] [z0,z0])] (sq [f 5 0 2,ln 6 2 5,f 7 0 3,ln 8 3 7,o 9 (.bU (.call (.mk (.builtin .max) #[6,8] #[3,3])) 3),f 10 1 2,ln 11 2 10,f 12 1 3,ln 13 3 12,o 14 (.bU (.call (.mk (.builtin .min) #[11,13] #[3,3])) 3),o 15 (.build [z0,z0] [(0,(1,9)),(1,(1,14))]),ls 4 2 4 15] .ret))
def Cw:List Zf:=[(.jH 4 4 (some 2))]
def He:aJ Tryz.prog 69 2 MT Cw:=bD [(2,2),(3,3),(4,4),(5,2),(7,3),(10,2),(12,3)] Tryz.func69
def l8:Ze:=(sq [m0 4] (.seq (sq [mi 5 0] (.block 0 (.loop (.seq (sq [m 6 5,m 7 0,le 8 7,b 9 .lss 6 8] (.cond 9 .skip (.exit 0))) (.seq (.block 1 (sq [m 12 0,m 13 5,ia 14 1 12 13,ld 15 14,m 16 1,b 17 .eql 15 16] (.cond 17 (sq [m1 4] .ret) .skip))) (.aI [m 10 5,bk 11 .add 10 1,m 5 11])))))) (sq [m0 4] .ret)))
def rU:List Zf:=[(.aK 4)]
def sE:aJ Tryz.prog 40 2 l8 rU:=bD [] Tryz.func40
def mV:Ze:=(sq [o 1 (.aP 1 [1] 0),m0 2] (sq [l 3 1 5 1,c1 4 17 3,o 5 (.not 4),m 6 5,gt 6 7 (.dA 1 (some 5) 1),gt 6 8 (.call 67 [7]),gt 6 9 (.aY .eql 8 (k 0)),pa 10 6 9,m 2 10] .ret))
def sU:List Zf:=[(.aK 2)]
def yW:aJ Tryz.prog 36 1 mV sU:=bD [(1,1)] Tryz.func36
def lT:Ze:=(sq [o 2 (.aP 2 [2,7,13,20,27,36,45,51,63,69,83] 0),o 3 (.aP 3 [3,9,15,22,30,39,56,75,89] 1),m0 4] (.seq (sq [f 7 0 2,ln 8 2 7,f 9 0 3,ln 10 3 9,b 11 .neq 8 10,m 12 11,gf 12 13 (.aU 1 2),gf 12 14 (.dA 2 none 13),gf 12 15 (.aU 1 3),gf 12 16 (.dA 3 none 15),gf 12 17 (.aY .neq 14 16),po 18 12 17,m 19 18,gf 19 20 (.aU 2 2),gf 19 21 (.dA 2 none 20),gf 19 22 (.aU 2 3),gf 19 23 (.dA 3 none 22),gf 19 24 (.aY .neq 21 23),po 25 19 24,m 26 25,gf 26 27 (.aU 3 2),gf 26 28 (.dA 2 none 27),gf 26 29 (.len 28),gf 26 30 (.aU 3 3),gf 26 31 (.dA 3 none 30),gf 26 32 (.len 31),gf 26 33 (.aY .neq 29 32),po 34 26 33,m 35 34,gf 35 36 (.aU 4 2),gf 35 37 (.dA 2 none 36),gf 35 38 (.len 37),gf 35 39 (.aU 4 3),gf 35 40 (.dA 3 none 39),gf 35 41 (.len 40),gf 35 42 (.aY .neq 38 41),po 43 35 42] (.cond 43 (sq [m0 4] .ret) .skip)) (.seq (sq [mi 5 0] (.block 0 (.loop (.seq (sq [m 44 5,f 45 3 2,ln 46 2 45,le 47 46,b 48 .lss 44 47] (.cond 48 .skip (.exit 0))) (.seq (.block 1 (.seq (.drawn [f 51 3 2,ln 52 2 51,m 53 5,ia 54 5 52 53,lm 55 5 54,f 56 3 3,ln 57 3 56,m 58 5,ia 59 5 57 58,lm 60 5 59,o 61 (.bU (.binOp .neq 50 55 60 50) 4)]) (.cond 61 (sq [m0 4] .ret) .skip))) (.aI [m 49 5,bk 50 .add 49 1,m 5 50])))))) (.seq (sq [mi 6 0] (.block 2 (.loop (.seq (sq [m 62 6,f 63 4 2,ln 64 2 63,le 65 64,b 66 .lss 62 65] (.cond 66 .skip (.exit 2))) (.seq (.block 3 (.seq (.drawn [(f 69 4 2,none),(ln 70 2 69,none),(m 71 6,none),(ia 72 3 70 71,none),(o 73 (.aN 1 72),none),(lm 74 2 73,none),(f 75 4 3,none),(ln 76 3 75,none),(m 77 6,none),(ia 78 3 76 77,none),(o 79 (.aN 1 78),none),(lm 80 2 79,none),(o 81 (.bU (.binOp .neq 36 74 80 36) 4),none),(m 82 81,none),(gf 82 83 (.aU 4 2),none),(gf 82 84 (.dA 2 none 83),none),(mf 82 85 6,none),(gf 82 86 (.bQ 3 84 85),none),(gf 82 87 (.aN 0 86),none),(gf 82 88 (.ld none 87),none),(gf 82 89 (.aU 4 3),none),(gf 82 90 (.dA 3 none 89),none),(mf 82 91 6,none),(gf 82 92 (.bQ 3 90 91),none),(gf 82 93 (.aN 0 92),none),(gf 82 94 (.ld none 93),none),(gf 82 95 (.call 23 [88,94]),none),(gf 82 96 (.not 95),none),(po 97 82 96,none)]) (.cond 97 (sq [m0 4] .ret) .skip))) (.aI [m 67 6,bk 68 .add 67 1,m 6 68])))))) (sq [m1 4] .ret)))))
def sV:List Zf:=[(.aK 4)]
def yY:aJ Tryz.prog 41 2 lT sV:=bD [(2,2),(3,3),(7,2),(9,3),(13,2),(15,3),(20,2),(22,3),(27,2),(30,3),(36,2),(39,3),(45,2),(51,2),(56,3),(63,2),(69,2),(75,3),(83,2),(89,3)] Tryz.func41
end
def PN:Yd Tryz.prog 36=some (some 2):=U
section
variable{P:aX}[Tz P]{H:Hp}{g:Bool}{d:Nat}
def y7{t:TypeId}(i:sZ Tryz.prog t=some ([("Before",3,0),("By",3,1)],false)\/sZ Tryz.prog t=some ([("Low",3,0),("High",3,1)],false)){a b c e:Int}(Q:Bool->Bool->Hp->Prop):bL P.toPQ (Op.equalIn (d+1+1) t (.agg #[vi a,vi b]) (.agg #[vi c,vi e])) Q g H↔Q (decide (a=c/\b=e)) g H:=by
 refine⟨λh=>?_,zY i Q⟩;have u:∀(x y:Int) (Q:Value->Bool->Hp->Prop) g H,bL P.toPQ (part 3 #[vi x,vi y] 0) Q g H↔Q (vi x) g H:=λx y Q g H=>Vo rfl Q;have w:∀(x y:Int) (Q:Value->Bool->Hp->Prop) g H,bL P.toPQ (part 3 #[vi x,vi y] 1) Q g H↔Q (vi y) g H:=λx y Q g H=>Vo rfl Q;rcases i with i | i
 all_goals
  obtain⟨C,D,m,⟨n,A,q⟩,⟨o,B,s⟩,i⟩:=P1 (p:=P.toProgram) (by rw[Tz.prog (P:=P)];exact i)
  rw[Op.equalIn]at h
  simp only[Zg,Zw m,V0,i,DO,qAw,Zj]at h
  simp only[n,o,A,B,q,s,Zg,qCd,qCb,List.forIn_nil]at h
  by_cases j:a=c<;>by_cases k:b=e<;>simp[u,w,CR,Zg,Zj,j,k]at h ⊢<;>exact h
end
def nK(l:List Int):∀n,(Z8 l n).length<=n
 | 0=>dO 0
 | n+1=>by
  have:=nK l n;unfold Z8;split
  ·omega
  simp;omega
section
open Go.Z
def lS:Ze:=(sq [o 6 (.aP 6 [6,67,97] 0),o 7 (.aP 7 [7,20] 1),o 9 (.aP 9 [9] 3),m0 12] (.seq (sq [l 16 6 5 6,c1 17 36 16,o 18 (.not 17),m 19 18,gf 19 20 (.aU 0 7),gf 19 21 (.dA 7 none 20),gf 19 22 (.len 21),gf 19 23 (.aY .gtr 22 (k 20)),po 24 19 23] (.cond 24 (sq [c0 25 18,m 12 25] .ret) .skip)) (sq [l 27 6 5 6,l 28 7 3 7,c2 29 63 27 28,m 26 29,x 30 26 0,x 31 26 1,o 13 (.aQ 13 [13] [z0,z0,z0,s0,s0]),ls 13 5 13 30,m 14 31] (.seq (.seq (.drawn [(m 32 14,none),(bk 33 .eql 32 0,none),(m 34 33,none),(gt 34 35 (.dA 13 (some 5) 13),none),(gt 34 36 (.dA 6 (some 5) 6),none),(gt 34 37 (.dA 7 (some 3) 7),none),(gt 34 38 (.call 66 [36,37]),(some false)),(gt 34 39 (.call 41 [35,38]),none),(gt 34 40 (.not 39),none),(mt 34 41 40,none),(gf 41 42 (.dA 13 (some 5) 13),none),(gf 41 43 (.call 67 [42]),none),(gf 41 44 (.aY .neq 43 (k 0)),none),(gt 34 45 (.pick 41 k1 44),none),(mt 34 46 45,none),(gf 46 47 (.dA 6 (some 5) 6),none),(gf 46 48 (.dA 13 (some 5) 13),none),(mf 46 49 4,none),(mf 46 50 5,none),(gf 46 51 (.call 68 [47,48,49,50]),none),(gf 46 52 (.not 51),none),(gt 34 53 (.pick 46 k1 52),none),(pa 54 34 53,none),(m 55 54,none),(mf 55 56 14,none),(gf 55 57 (.aY .neq 56 (k 0)),none),(mf 55 58 57,none),(gt 58 59 (.dA 13 (some 5) 13),none),(gt 58 60 (.build [z0,z0,z0,s0,s0] []),none),(gt 58 61 (.call 41 [59,60]),none),(gt 58 62 (.not 61),none),(gf 55 63 (.pick 58 62 k0),none),(po 64 55 63,none)]) (.cond 64 (sq [m0 12] .ret) .skip)) (sq [m 65 2,o 66 (.bU (.convert 5 3 65) 3),f 67 3 6,ln 68 6 67,le 69 68,o 70 (.bU (.binOp .rem 3 66 69 3) 3),m 15 70] (sq [l 72 6 5 6,m 73 15,l 74 9 2 9,c3 75 38 72 73 74,m 71 75,x 76 71 0,x 77 71 1,ls 13 5 13 76,m 14 77] (.seq (sq [m 78 14,bk 79 .neq 78 0] (.cond 79 (sq [m 80 14,bk 81 .eql 80 1,m 82 81,mf 82 83 14,gf 82 84 (.aY .eql 83 (k 9)),po 85 82 84,m 86 85,gt 86 87 (.dA 13 (some 5) 13),gt 86 88 (.build [z0,z0,z0,s0,s0] []),gt 86 89 (.call 41 [87,88]),pa 90 86 89,m 91 90,gt 91 92 (.call 18 []),pa 93 91 92,m 12 93] .ret) .skip)) (.seq (.drawn [(l 94 13 5 13,none),(l 95 6 5 6,none),(m 96 15,none),(f 97 3 6,none),(ln 98 6 97,none),(m 99 15,none),(ia 100 5 98 99,none),(o 101 (.aN 1 100),none),(lm 102 2 101,none),(l 103 9 2 9,none),(c2 104 69 102 103,(some false)),(c3 105 42 95 96 104,(some false)),(c2 106 41 94 105,none),(m 107 106,none),(gt 107 108 (.dA 13 (some 5) 13),none),(gt 107 109 (.call 67 [108]),none),(gt 107 110 (.aY .eql 109 (k 0)),none),(pa 111 107 110,none),(m 112 111,none),(gt 112 113 (.dA 6 (some 5) 6),none),(gt 112 114 (.dA 13 (some 5) 13),none),(mt 112 115 4,none),(mt 112 116 5,none),(gt 112 117 (.call 68 [113,114,115,116]),none),(pa 118 112 117,none),(m 119 118,none),(gt 119 120 (.call 18 []),none),(pa 121 119 120,none),(m 12 121,none)]) .ret))))))))
def lK:List Zf:=[(.aK 12)]
def yV:aJ Tryz.prog 14 6 lS lK:=bD [(6,6),(7,7),(9,9),(13,13),(20,7),(67,6),(97,6)] Tryz.func14
end
variable{α:Type}{H:Hp}{r:Nat}{E:TypeId}
def sP[Enc α]{l:List α}(f:H r=none):dD H (H.ins r (.cells (Zb l).toArray E)) E (.slice (some ⟨r,0,none⟩) l.length l.length) l (some r):=
 ⟨⟨VH l,.inr ⟨r,l.length,[],rfl,rfl,by rw[qAf];exact Hp.aG _ _ _,by rw[qAf];exact VH l,dO _⟩⟩,λh e=>by obtain rfl:=iO e;exact f⟩
def sQ[Enc α](e:H r=none):dD H (H.ins r (.cells #[] E)) E (.slice (some ⟨r,0,none⟩) 0 0) ([]:List α) (some r):=sP (l:=([]:List α)) e
def nL{l:List Int}(h:l.Pairwise (·<=·)):∀n,n<=l.length->(Z8 l n).Pairwise (·<·)/\(∀z,z∈Z8 l n↔z∈l.take n)/\(∀z∈Z8 l n,z<=el l (n-1))
 | 0,_=>⟨.nil,λz=>by simp[Z8],λz e=>by simp[Z8]at e⟩
 | n+1,F=>by
  obtain⟨q,s,m⟩:=nL h n O;have f:∀i j,i<=j->j<l.length->el l i<=el l j:=by
   intro i j D t;rw[Uu O,Uu t];rcases qBi i j with o | o
   ·exact qAY.1 h i j O t o
   have:i=j:=O;subst this;exact qAx _
  rw[CB O];by_cases p:n=0
  ·subst p;rw[PT];exact⟨qAS _ _,λz=>by simp,λz e=>by rw[oR.1 e];exact qAx _⟩
  by_cases k:el l n=el l (n-1)
  ·rw[KN p k];refine⟨q,λz=>?_,λz e=>?_⟩
   ·rw[s,qAi,oR];constructor
    ·exact .inl
    rintro(e | rfl)
    ·exact e
    rw[k];have u:n=(n-1)+1:=O;rw[u,CB O];simp
   have:=m z e;rw[qAU,k];exact this
  rw[KO k];refine⟨?_,λz=>?_,λz e=>?_⟩
  ·rw[qBn];refine⟨q,qAS _ _,λa B c C=>?_⟩;rw[oR.1 C];have w:=m a B;have A:=f (n-1) n O O;omega
  ·rw[qAi,s,qAi]
  rw[qAU];rcases qAi.1 e with e | e
  ·have w:=m z e;have A:=f (n-1) n O O;omega
  rw[oR.1 e];exact qAx _
