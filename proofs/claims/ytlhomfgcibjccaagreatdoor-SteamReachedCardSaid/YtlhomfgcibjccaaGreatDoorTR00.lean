import Derived.Test.YtlhomfgcibjccaaGreatDoorP39
set_option linter.all false
section
namespace Go.LL
section
variable{P:aX}{d:Option Nat}{r:List NI}{op:bE}{Q:aM->Hp->Prop}{next:aM->Hp->Prop}{σ:aM}{H:Hp}{x y z:Operand}{v:Value}
variable{l:List (NI×Option Bool)}
def yO{f:Option Bool}{t:Nat}{b:Bool}(i:P.still H.gh=false)(e:σ.env t=some undef)(h:ZT P l Q (σ.fB d) H):ZT P ((⟨some (t,b),d,op⟩,f) :: l) Q σ H:=by cases b<;>(simp only[ZT,e,undef];exact⟨i,h⟩)
variable{Qe:Ex->aM->Hp->Prop}{a b c:Ze}
end
section
variable{P:aX}{d:Option Nat}{next:aM->Hp->Prop}{σ:aM}{H:Hp}{x y z:Operand}{v:Value}{ty:TypeId}
def lW{k:IntKind}{m n:Int}{t t2:TypeId}(e:σ.get x=some (.int k m))(f:σ.get y=some (.int k n))(i:n≠0)(h:next (σ.set d (.int k (m.tmod n))) H):(bE.bU (.binOp .rem t x y t2) ty).m P d next σ H:=by
 refine Vd (by simp[Op.operands,e,f]) ?_ h;have:execOp (λx=>(σ.get x).getD undef) (aR (.binOp .rem t x y t2) ty)=pure (.value (.int k (m.tmod n))):=by simp[execOp,aR,e,f,eqGuard,binOp,Op.intDiv,i]
 rw[this];exact λQ g H j=>j
end
end Go.LL
end
open Go Go.LL
namespace Go.Proofs
section
open Go.Z
def lU:Ze:=(sq [o 2 (.aP 2 [2] 0),o 4 (.cY (.const s0))] (sq [l 6 2 5 2,c1 7 47 6,m 5 7] (sq [m 8 5,m 9 1,o 10 (.bU (.convert 5 3 9) 3),m 11 5,le 12 11,o 13 (.bU (.binOp .rem 3 10 12 3) 3),ia 14 1 8 13,ld 15 14,m 4 15] .ret)))
def sJ:List Zf:=[(.aK 4)]
def y6:aJ Tryz.prog 37 2 lU sJ:=bD [(2,2)] Tryz.func37
def mG:Ze:=(sq [o 3 (.aP 3 [3,10] 0),o 5 (.aP 5 [5] 2),o 6 (.aQ 6 [6] [z0,z0,z0,s0,s0])] (sq [l 8 3 5 3,o 7 (.aQ 7 [7,13,14] [z0,z0,z0,s0,s0]),ls 7 5 7 8] (sq [o 9 (.raw (.buildSlice 22 0 #[]) 22),f 10 3 3,ln 11 3 10,o 12 (.raw (.call (.mk (.builtin .append) #[9,11] #[22,22])) 22),f 13 3 7,ls 7 1 13 12] (sq [f 14 3 7,ln 15 7 14,m 16 1,l 17 5 2 5,ia 18 5 15 16,o 19 (.aN 1 18),st 36 19 17 0] (sq [l 20 7 5 7,ls 6 5 6 20] .ret)))))
def sL:List Zf:=[(.jH 6 6 (some 5))]
def y8:aJ Tryz.prog 42 3 mG sL:=bD [(3,3),(5,5),(6,6),(7,7),(10,3),(13,7),(14,7)] Tryz.func42
def mH:Ze:=(sq [o 1 (.aP 1 [1,10,23] 0),o 2 (.cY (.const s0))] (sq [o 8 (.aO 26 1 [s0] [(0,(1,(.const s0)))]),m 3 8] (.seq (sq [mi 4 0] (.block 0 (.loop (.seq (sq [m 9 4,f 10 3 1,ln 11 1 10,le 12 11,b 13 .lss 9 12] (.cond 13 .skip (.exit 0))) (.seq (.block 1 (sq [o 5 (.cY (.const s0))] (.seq (sq [mi 6 0] (.block 2 (.loop (.seq (sq [m 16 6,m 17 3,le 18 17,b 19 .lss 16 18] (.cond 19 .skip (.exit 2))) (.seq (.block 3 (sq [mi 7 0] (.block 4 (.loop (.seq (sq [m 22 7,f 23 3 1,ln 24 1 23,le 25 24,b 26 .lss 22 25] (.cond 26 .skip (.exit 4))) (.seq (.block 5 (sq [m 29 3,m 30 6,ia 31 1 29 30,ld 32 31,m 33 7,c2 34 40 32 33,o 35 (.not 34)] (.cond 35 (.aI [m 36 5,o 37 (.raw (.buildSlice 26 0 #[]) 26),m 38 3,m 39 6,ia 40 1 38 39,ld 41 40,o 42 (.raw (.call (.mk (.builtin .append) #[37,41] #[26,26])) 26),m 43 7,o 44 (.aO 3 1 [z0] [(0,(1,43))]),o 45 (.raw (.call (.mk (.builtin .append) #[42,44] #[26,26])) 26),o 46 (.aO 26 1 [s0] [(0,(1,45))]),o 47 (.raw (.call (.mk (.builtin .append) #[36,46] #[68,68])) 68),m 5 47]) .skip))) (.aI [m 27 7,bk 28 .add 27 1,m 7 28]))))))) (.aI [m 20 6,bk 21 .add 20 1,m 6 21])))))) (.aI [m 48 5,m 3 48])))) (.aI [m 14 4,bk 15 .add 14 1,m 4 15])))))) (sq [m 49 3,m 2 49] .ret))))
def sN:List Zf:=[(.aK 2)]
def y9:aJ Tryz.prog 47 1 mH sN:=bD [(1,1),(10,1),(23,1)] Tryz.func47
def l8:Ze:=(sq [m0 4] (.seq (sq [mi 5 0] (.block 0 (.loop (.seq (sq [m 6 5,m 7 0,le 8 7,b 9 .lss 6 8] (.cond 9 .skip (.exit 0))) (.seq (.block 1 (sq [m 12 0,m 13 5,ia 14 1 12 13,ld 15 14,m 16 1,b 17 .eql 15 16] (.cond 17 (sq [m1 4] .ret) .skip))) (.aI [m 10 5,bk 11 .add 10 1,m 5 11])))))) (sq [m0 4] .ret)))
def rU:List Zf:=[(.aK 4)]
def sE:aJ Tryz.prog 40 2 l8 rU:=bD [] Tryz.func40
def mE:Ze:=(sq [o 1 (.aP 1 [1] 0),m0 2] (sq [l 3 1 5 1,c1 4 17 3,o 5 (.not 4),m 6 5,gt 6 7 (.dA 1 (some 5) 1),gt 6 8 (.call 67 [7]),gt 6 9 (.aY .eql 8 (k 0)),pa 10 6 9,m 2 10] .ret))
def sI:List Zf:=[(.aK 2)]
def y5:aJ Tryz.prog 36 1 mE sI:=bD [(1,1)] Tryz.func36
def mF:Ze:=(sq [o 2 (.aP 2 [2,7,13,20,27,36,45,51,63,69,83] 0),o 3 (.aP 3 [3,9,15,22,30,39,56,75,89] 1),m0 4] (.seq (sq [f 7 0 2,ln 8 2 7,f 9 0 3,ln 10 3 9,b 11 .neq 8 10,m 12 11,gf 12 13 (.aU 1 2),gf 12 14 (.dA 2 none 13),gf 12 15 (.aU 1 3),gf 12 16 (.dA 3 none 15),gf 12 17 (.aY .neq 14 16),po 18 12 17,m 19 18,gf 19 20 (.aU 2 2),gf 19 21 (.dA 2 none 20),gf 19 22 (.aU 2 3),gf 19 23 (.dA 3 none 22),gf 19 24 (.aY .neq 21 23),po 25 19 24,m 26 25,gf 26 27 (.aU 3 2),gf 26 28 (.dA 2 none 27),gf 26 29 (.len 28),gf 26 30 (.aU 3 3),gf 26 31 (.dA 3 none 30),gf 26 32 (.len 31),gf 26 33 (.aY .neq 29 32),po 34 26 33,m 35 34,gf 35 36 (.aU 4 2),gf 35 37 (.dA 2 none 36),gf 35 38 (.len 37),gf 35 39 (.aU 4 3),gf 35 40 (.dA 3 none 39),gf 35 41 (.len 40),gf 35 42 (.aY .neq 38 41),po 43 35 42] (.cond 43 (sq [m0 4] .ret) .skip)) (.seq (sq [mi 5 0] (.block 0 (.loop (.seq (sq [m 44 5,f 45 3 2,ln 46 2 45,le 47 46,b 48 .lss 44 47] (.cond 48 .skip (.exit 0))) (.seq (.block 1 (.seq (.drawn [f 51 3 2,ln 52 2 51,m 53 5,ia 54 5 52 53,lm 55 5 54,f 56 3 3,ln 57 3 56,m 58 5,ia 59 5 57 58,lm 60 5 59,o 61 (.bU (.binOp .neq 50 55 60 50) 4)]) (.cond 61 (sq [m0 4] .ret) .skip))) (.aI [m 49 5,bk 50 .add 49 1,m 5 50])))))) (.seq (sq [mi 6 0] (.block 2 (.loop (.seq (sq [m 62 6,f 63 4 2,ln 64 2 63,le 65 64,b 66 .lss 62 65] (.cond 66 .skip (.exit 2))) (.seq (.block 3 (.seq (.drawn [(f 69 4 2,none),(ln 70 2 69,none),(m 71 6,none),(ia 72 3 70 71,none),(o 73 (.aN 1 72),none),(lm 74 2 73,none),(f 75 4 3,none),(ln 76 3 75,none),(m 77 6,none),(ia 78 3 76 77,none),(o 79 (.aN 1 78),none),(lm 80 2 79,none),(o 81 (.bU (.binOp .neq 36 74 80 36) 4),none),(m 82 81,none),(gf 82 83 (.aU 4 2),none),(gf 82 84 (.dA 2 none 83),none),(mf 82 85 6,none),(gf 82 86 (.bQ 3 84 85),none),(gf 82 87 (.aN 0 86),none),(gf 82 88 (.ld none 87),none),(gf 82 89 (.aU 4 3),none),(gf 82 90 (.dA 3 none 89),none),(mf 82 91 6,none),(gf 82 92 (.bQ 3 90 91),none),(gf 82 93 (.aN 0 92),none),(gf 82 94 (.ld none 93),none),(gf 82 95 (.call 23 [88,94]),none),(gf 82 96 (.not 95),none),(po 97 82 96,none)]) (.cond 97 (sq [m0 4] .ret) .skip))) (.aI [m 67 6,bk 68 .add 67 1,m 6 68])))))) (sq [m1 4] .ret)))))
def sK:List Zf:=[(.aK 4)]
def y7:aJ Tryz.prog 41 2 mF sK:=bD [(2,2),(3,3),(7,2),(9,3),(13,2),(15,3),(20,2),(22,3),(27,2),(30,3),(36,2),(39,3),(45,2),(51,2),(56,3),(63,2),(69,2),(75,3),(83,2),(89,3)] Tryz.func41
end
section
variable{a b:Bool}
def PN:Yd Tryz.prog 36=some (some 2):=U
section
variable{P:aX}[Tz P]{H:Hp}{g:Bool}{d:Nat}
def v7{t:TypeId}(i:sZ Tryz.prog t=some ([("Before",3,0),("By",3,1)],false)\/sZ Tryz.prog t=some ([("Low",3,0),("High",3,1)],false)){a b c e:Int}(Q:Bool->Bool->Hp->Prop):bL P.toPQ (Op.equalIn (d+1+1) t (.agg #[vi a,vi b]) (.agg #[vi c,vi e])) Q g H↔Q (decide (a=c/\b=e)) g H:=by
 refine⟨λh=>?_,zY i Q⟩;have u:∀(x y:Int) (Q:Value->Bool->Hp->Prop) g H,bL P.toPQ (part 3 #[vi x,vi y] 0) Q g H↔Q (vi x) g H:=λx y Q g H=>Vo rfl Q;have w:∀(x y:Int) (Q:Value->Bool->Hp->Prop) g H,bL P.toPQ (part 3 #[vi x,vi y] 1) Q g H↔Q (vi y) g H:=λx y Q g H=>Vo rfl Q;rcases i with i | i
 all_goals
  obtain⟨B,C,m,⟨n,A,q⟩,⟨o,t2,s⟩,i⟩:=P1 (p:=P.toProgram) (by rw[Tz.prog (P:=P)];exact i)
  rw[Op.equalIn]at h
  simp only[Zg,Zw m,V0,i,DO,qAw,Zj]at h
  simp only[n,o,A,t2,q,s,Zg,qCd,qCb,List.forIn_nil]at h
  by_cases j:a=c<;>by_cases k:b=e<;>simp[u,w,CR,Zg,Zj,j,k]at h ⊢<;>exact h
end
section
variable{P:aX}[Tz P]{H:Hp}{d:Option Nat}{next:aM->Hp->Prop}{σ:aM}{x y:Operand}{ty t2:TypeId}{v:Value}
def vZ(d:Nat)(Q:Bool->Bool->Hp->Prop)(g:Bool)(H:Hp)(e:Q (a == b) g H):bL P.toPQ (Op.equalIn (d+1) 4 (vb a) (vb b)) Q g H:=by simp only[Op.equalIn,Zg,Zw (bI (P:=P) F6),Zj];exact e
def mT(Q:Bool->Bool->Hp->Prop)(g:Bool)(H:Hp)(e:Q (a == b) g H):bL P.toPQ (Op.equalIn (9999+1) 4 (vb a) (vb b)) Q g H:=vZ 9999 Q g H e
def sO(e:σ.get x=some (vb a))(f:σ.get y=some (vb b))(h:next (σ.set d (vb (a == b))) H):(bE.bU (.binOp .eql 4 x y t2) ty).m P d next σ H:=by
 refine Vd (by simp[Op.operands,e,f]) ?_ h;have:execOp (λx=>(σ.get x).getD undef) (aR (.binOp .eql 4 x y t2) ty)=(do let v <-(do eqGuard .eql 4 x y (vb a) (vb b);binOp .eql 4 (vb a) (vb b));pure (.value v)):=by simp[execOp,aR,e,f]
 rw[this];refine Uq λQ g H i=>?_;simp only[eqGuard,Zg,Zj];exact Zg.2 (mT _ _ _ i)
def fG(e:σ.get x=some (vb a))(f:σ.get y=some (vb b))(h:next (σ.set d (vb (a != b))) H):(bE.bU (.binOp .neq 4 x y t2) ty).m P d next σ H:=by
 refine Vd (by simp[Op.operands,e,f]) ?_ h;have:execOp (λx=>(σ.get x).getD undef) (aR (.binOp .neq 4 x y t2) ty)=(do let v <-(do eqGuard .neq 4 x y (vb a) (vb b);binOp .neq 4 (vb a) (vb b));pure (.value v)):=by simp[execOp,aR,e,f]
 rw[this];refine Uq λQ g H i=>?_;simp only[eqGuard,Zg,Zj];exact Zg.2 (mT _ _ _ i)
end
def mR(l:List Int):∀n,(Z8 l n).length<=n
 | 0=>dO 0
 | n+1=>by
  have:=mR l n;unfold Z8;split
  ·omega
  simp;omega
end
section
open Go.Z
def lT:Ze:=(sq [o 3 (.aP 3 [3,36,98,106] 0),m0 6] (.seq (sq [l 30 3 5 3,c1 31 36 30,o 32 (.not 31)] (.cond 32 (sq [c0 33 18,m 6 33] .ret) .skip)) (.seq (.drawn [m 34 1,o 35 (.bU (.convert 5 3 34) 3),f 36 3 3,ln 37 3 36,le 38 37,o 39 (.bU (.binOp .rem 3 35 38 3) 3),l 40 3 5 3,m 41 2,(c2 42 37 40 41,(some false)),m 7 39,m 8 42]) (sq [l 44 3 5 3,m 45 7,c2 46 21 44 45,m 43 46,x 47 43 0,x 48 43 1,m 9 47,m 10 48] (sq [l 50 3 5 3,c1 51 19 50,m 49 51,x 52 49 0,x 53 49 1,m 11 52,m 12 53] (sq [l 55 3 5 3,m 56 8,c2 57 24 55 56,m 54 57,x 58 54 0,x 59 54 1,o 13 (.aQ 13 [13] [z0,z0]),ls 13 2 13 58,m 14 59] (sq [l 61 3 5 3,m 62 8,c2 63 28 61 62,m 60 63,x 64 60 0,x 65 60 1,m 15 64,m 16 65] (.seq (sq [m 66 12,bk 67 .neq 66 0,m 68 67,mf 68 69 10,mf 68 70 14,gf 68 71 (.aY .neq 69 70),po 72 68 71,m 73 72,mf 73 74 10,mf 73 75 16,gf 73 76 (.aY .neq 74 75),po 77 73 76,m 78 77,mf 78 79 10,gf 78 80 (.aY .eql 79 (k 0)),mf 78 81 11,gf 78 82 (.aY .gtr 81 (k 0)),gf 78 83 (.bU (.binOp .neq 4 80 82 4) 4),po 84 78 83,m 85 84,mf 85 86 10,gf 85 87 (.aY .neq 86 (k 0)),mf 85 88 87,mt 88 89 10,gt 88 90 (.aY .neq 89 (k 9)),mt 88 91 90,mf 91 92 9,gf 91 93 (.len 92),gf 91 94 (.aY .gtr 93 (k 0)),gt 88 95 (.pick 91 k1 94),gf 85 96 (.pick 88 95 k0),po 97 85 96] (.cond 97 (sq [m0 6] .ret) .skip)) (sq [mi 17 0,mi 18 200,mi 19 0,m1 20] (.seq (sq [f 98 3 3,ln 99 3 98,m 100 7,ia 101 5 99 100,o 102 (.aN 1 101),o 103 (.aN 0 102),ld 104 103,m 21 104] (.block 0 (.loop (.seq (sq [m 105 21,f 106 3 3,ln 107 3 106,m 108 7,ia 109 5 107 108,o 110 (.aN 1 109),o 111 (.aN 1 110),ld 112 111,b 113 .leq 105 112] (.cond 113 .skip (.exit 0))) (.seq (.block 1 (.seq (.drawn [l 117 3 5 3,m 118 7,m 119 21,o 22 (.aQ 22 [22] [z0,z0,z0,s0,s0]),(c1 120 39 119,(some false)),(c3 121 38 117 118 120,(some false)),m 116 121,x 122 116 0,x 123 116 1,ls 22 5 22 122,m 23 123]) (.seq (sq [m 124 23,bk 125 .eql 124 0,m 126 9,m 127 21,c2 128 40 126 127,o 129 (.bU (.binOp .neq 4 125 128 4) 4),m 130 129,mf 130 131 23,gf 130 132 (.aY .neq 131 (k 0)),mf 130 133 132,mt 133 134 23,gt 133 135 (.aY .neq 134 (k 9)),mt 133 136 135,gf 136 137 (.dA 22 (some 5) 22),gf 136 138 (.build [z0,z0,z0,s0,s0] []),gf 136 139 (.call 41 [137,138]),gf 136 140 (.not 139),gt 133 141 (.pick 136 k1 140),gf 130 142 (.pick 133 141 k0),po 143 130 142] (.cond 143 (sq [m0 6] .ret) .skip)) (.seq (sq [m 144 23,bk 145 .neq 144 0] (.cond 145 (.exit 1) .skip)) (sq [l 147 22 5 22,c1 148 19 147,m 146 148,x 149 146 0,x 150 146 1,m 24 149,m 25 150] (sq [l 152 22 5 22,m 153 8,c2 154 24 152 153,m 151 154,x 155 151 0,x 156 151 1,o 26 (.aQ 26 [26,191,195] [z0,z0]),ls 26 2 26 155,m 27 156] (sq [l 158 22 5 22,m 159 8,c2 160 28 158 159,m 157 160,x 161 157 0,x 162 157 1,m 28 161,m 29 162] (.seq (.seq (.drawn [(m 163 25,none),(bk 164 .neq 163 0,none),(m 165 164,none),(mf 165 166 27,none),(gf 165 167 (.aY .neq 166 (k 0)),none),(po 168 165 167,none),(m 169 168,none),(mf 169 170 29,none),(gf 169 171 (.aY .neq 170 (k 0)),none),(po 172 169 171,none),(m 173 172,none),(mf 173 174 24,none),(gf 173 175 (.aY .lss 174 (k 1)),none),(po 176 173 175,none),(m 177 176,none),(gf 177 178 (.dA 22 (some 5) 22),none),(gf 177 179 (.dA 3 (some 5) 3),none),(mf 177 180 7,none),(mf 177 181 21,none),(gf 177 182 (.call 39 [181]),(some false)),(gf 177 183 (.call 42 [179,180,182]),(some false)),(gf 177 184 (.call 41 [178,183]),none),(gf 177 185 (.not 184),none),(po 186 177 185,none)]) (.cond 186 (sq [m0 6] .ret) .skip)) (.drawn [m 187 17,m 188 24,b 189 .add 187 188,m 190 18,f 191 0 26,ln 192 26 191,(o 193 (.bU (.call (.mk (.builtin .min) #[190,192] #[3,3])) 3),none),m 194 19,f 195 1 26,ln 196 26 195,(o 197 (.bU (.call (.mk (.builtin .max) #[194,196] #[3,3])) 3),none),m 198 20,m 199 198,mt 199 200 28,gt 199 201 (.aY .eql 200 (k 1)),pa 202 199 201,m 17 189,m 18 193,m 19 197,m 20 202]))))))))) (.aI [m 114 21,bk 115 .add 114 1,m 21 115])))))) (.seq (sq [m 203 17,m 204 11,b 205 .neq 203 204] (.cond 205 (sq [m0 6] .ret) .skip)) (.seq (.drawn [m 206 11,bk 207 .eql 206 0,m 208 207,gf 208 209 (.dA 13 (some 2) 13),mf 208 210 18,mf 208 211 19,(gf 208 212 (.call 43 [210,211]),(some false)),gf 208 213 (.bU (.binOp .eql 36 209 212 36) 4),mf 208 214 213,mt 214 215 20,mt 214 216 15,gt 214 217 (.aY .eql 216 (k 1)),gt 214 218 (.bU (.binOp .eql 4 215 217 4) 4),gf 208 219 (.pick 214 218 k0),po 220 208 219,m 221 220,gt 221 222 (.call 18 []),pa 223 221 222,m 6 223]) .ret))))))))))))
def kX:List Zf:=[(.aK 6)]
def y4:aJ Tryz.prog 5 3 lT kX:=bD [(3,3),(13,13),(22,22),(26,26),(36,3),(98,3),(106,3),(191,26),(195,26)] Tryz.func5
end
variable{α:Type}{H:Hp}{r:Nat}{E:TypeId}
def rH[Enc α]{l:List α}(f:H r=none):dD H (H.ins r (.cells (Zb l).toArray E)) E (.slice (some ⟨r,0,none⟩) l.length l.length) l (some r):=
 ⟨⟨VH l,.inr ⟨r,l.length,[],rfl,rfl,by rw[qAf];exact Hp.aG _ _ _,by rw[qAf];exact VH l,dO _⟩⟩,λh e=>by obtain rfl:=iO e;exact f⟩
def sR[Enc α](e:H r=none):dD H (H.ins r (.cells #[] E)) E (.slice (some ⟨r,0,none⟩) 0 0) ([]:List α) (some r):=rH (l:=([]:List α)) e
def mS{l:List Int}(h:l.Pairwise (·<=·)):∀n,n<=l.length->(Z8 l n).Pairwise (·<·)/\(∀z,z∈Z8 l n↔z∈l.take n)/\(∀z∈Z8 l n,z<=el l (n-1))
 | 0,_=>⟨.nil,λz=>by simp[Z8],λz e=>by simp[Z8]at e⟩
 | n+1,F=>by
  obtain⟨q,s,m⟩:=mS h n O;have f:∀i j,i<=j->j<l.length->el l i<=el l j:=by
   intro i j D t;rw[Uu O,Uu t];rcases qBi i j with o | o
   ·exact qAY.1 h i j O t o
   have:i=j:=O;subst this;exact qAx _
  rw[CB O];by_cases p:n=0
  ·subst p;rw[PT];exact⟨qAS _ _,λz=>by simp,λz e=>by rw[oR.1 e];exact qAx _⟩
  by_cases k:el l n=el l (n-1)
  ·rw[KN p k];refine⟨q,λz=>?_,λz e=>?_⟩
   ·rw[s,qAi,oR];constructor
    ·exact .inl
    rintro(e | rfl)
    ·exact e
    rw[k];have u:n=(n-1)+1:=O;rw[u,CB O];simp
   have:=m z e;rw[qAU,k];exact this
  rw[KO k];refine⟨?_,λz=>?_,λz e=>?_⟩
  ·rw[qBn];refine⟨q,qAS _ _,λa B c C=>?_⟩;rw[oR.1 C];have w:=m a B;have A:=f (n-1) n O O;omega
  ·rw[qAi,s,qAi]
  rw[qAU];rcases qAi.1 e with e | e
  ·have w:=m z e;have A:=f (n-1) n O O;omega
  rw[oR.1 e];exact qAx _
