import Derived.Test.YtlhomfgcibjccaaGreatDoorP39
set_option linter.all false
section
namespace Go.LL
section
variable{P:aX}{d:Option Nat}{next:aM->Hp->Prop}{σ:aM}{H:Hp}{x y z:Operand}{v:Value}{ty:TypeId}
def jT{k:IntKind}{m n:Int}{t t2:TypeId}(c:σ.get x=some (.int k m))(e:σ.get y=some (.int k n))(f:n≠0)(h:next (σ.set d (.int k (m.tmod n))) H):(bE.bU (.binOp .rem t x y t2) ty).m P d next σ H:=by
 refine Vd (by simp[Op.operands,c,e]) ?_ h;have:execOp (λx=>(σ.get x).getD undef) (aR (.binOp .rem t x y t2) ty)=pure (.value (.int k (m.tmod n))):=by simp[execOp,aR,c,e,eqGuard,binOp,Op.intDiv,f]
 rw[this];exact λQ g H i=>i
end
end Go.LL
end
open Go Go.LL
namespace Go.Proofs
section
open Go.Z
def kM:Ze:=(sq [o 2 (.aP 2 [2] 0),o 4 (.cY (.const s0))] (sq [l 6 2 5 2,c1 7 47 6,m 5 7] (sq [m 8 5,m 9 1,o 10 (.bU (.convert 5 3 9) 3),m 11 5,le 12 11,o 13 (.bU (.binOp .rem 3 10 12 3) 3),ia 14 1 8 13,ld 15 14,m 4 15] .ret)))
def oC:List Zf:=[(.aK 4)]
def sV:aJ Tryz.prog 37 2 kM oC:=bD [(2,2)] Tryz.func37
def kO:Ze:=(sq [o 1 (.aP 1 [1,10,23] 0),o 2 (.cY (.const s0))] (sq [o 8 (.aO 26 1 [s0] [(0,(1,(.const s0)))]),m 3 8] (.seq (sq [mi 4 0] (.block 0 (.loop (.seq (sq [m 9 4,f 10 3 1,ln 11 1 10,le 12 11,b 13 .lss 9 12] (.cond 13 .skip (.exit 0))) (.seq (.block 1 (sq [o 5 (.cY (.const s0))] (.seq (sq [mi 6 0] (.block 2 (.loop (.seq (sq [m 16 6,m 17 3,le 18 17,b 19 .lss 16 18] (.cond 19 .skip (.exit 2))) (.seq (.block 3 (sq [mi 7 0] (.block 4 (.loop (.seq (sq [m 22 7,f 23 3 1,ln 24 1 23,le 25 24,b 26 .lss 22 25] (.cond 26 .skip (.exit 4))) (.seq (.block 5 (sq [m 29 3,m 30 6,ia 31 1 29 30,ld 32 31,m 33 7,c2 34 40 32 33,o 35 (.not 34)] (.cond 35 (.aI [m 36 5,o 37 (.raw (.buildSlice 26 0 #[]) 26),m 38 3,m 39 6,ia 40 1 38 39,ld 41 40,o 42 (.raw (.call (.mk (.builtin .append) #[37,41] #[26,26])) 26),m 43 7,o 44 (.aO 3 1 [z0] [(0,(1,43))]),o 45 (.raw (.call (.mk (.builtin .append) #[42,44] #[26,26])) 26),o 46 (.aO 26 1 [s0] [(0,(1,45))]),o 47 (.raw (.call (.mk (.builtin .append) #[36,46] #[68,68])) 68),m 5 47]) .skip))) (.aI [m 27 7,bk 28 .add 27 1,m 7 28]))))))) (.aI [m 20 6,bk 21 .add 20 1,m 6 21])))))) (.aI [m 48 5,m 3 48])))) (.aI [m 14 4,bk 15 .add 14 1,m 4 15])))))) (sq [m 49 3,m 2 49] .ret))))
def nH:List Zf:=[(.aK 2)]
def rD:aJ Tryz.prog 47 1 kO nH:=bD [(1,1),(10,1),(23,1)] Tryz.func47
def kN:Ze:=(sq [o 2 (.aP 2 [2,8,15] 0),o 4 (.cY (.const s0))] (sq [o 5 (.cY (.const s0))] (.seq (sq [mi 6 0] (.block 0 (.loop (.seq (sq [m 7 6,f 8 3 2,ln 9 2 8,le 10 9,b 11 .lss 7 10] (.cond 11 .skip (.exit 0))) (.seq (.block 1 (.drawn [m 14 5,f 15 3 2,ln 16 2 15,m 17 6,ia 18 5 16 17,o 19 (.aN 1 18),lm 20 2 19,m 21 1,m 22 6,(c2 23 110 21 22,(some true)),(c2 24 109 20 23,(some false)),(o 25 (.aO 3 1 [z0] [(0,(1,24))]),(some false)),(o 26 (.raw (.call (.mk (.builtin .append) #[14,25] #[26,26])) 26),none),m 5 26])) (.aI [m 12 6,bk 13 .add 12 1,m 6 13])))))) (sq [m 27 5,m 4 27] .ret))))
def nU:List Zf:=[(.aK 4)]
def sH:aJ Tryz.prog 44 2 kN nU:=bD [(2,2),(8,2),(15,2)] Tryz.func44
def kP:Ze:=(sq [o 2 (.aP 2 [2,5,8,10] 0),mi 4 0] (.seq (.drawn [f 5 0 2,ln 6 2 5,m 7 1,f 8 1 2,ln 9 2 8,f 10 0 2,ln 11 2 10,b 12 .sub 9 11,bk 13 .add 12 1,o 14 (.bU (.binOp .rem 3 7 13 3) 3),b 15 .add 6 14,m 4 15]) .ret))
def nV:List Zf:=[(.aK 4)]
def sI:aJ Tryz.prog 109 2 kP nV:=bD [(2,2),(5,2),(8,2),(10,2)] Tryz.func109
def l8:Ze:=(sq [m0 4] (.seq (sq [mi 5 0] (.block 0 (.loop (.seq (sq [m 6 5,m 7 0,le 8 7,b 9 .lss 6 8] (.cond 9 .skip (.exit 0))) (.seq (.block 1 (sq [m 12 0,m 13 5,ia 14 1 12 13,ld 15 14,m 16 1,b 17 .eql 15 16] (.cond 17 (sq [m1 4] .ret) .skip))) (.aI [m 10 5,bk 11 .add 10 1,m 5 11])))))) (sq [m0 4] .ret)))
def rU:List Zf:=[(.aK 4)]
def sE:aJ Tryz.prog 40 2 l8 rU:=bD [] Tryz.func40
def AZ:Ze:=(sq [mi 4 0] (.seq (sq [m 5 1,bk 6 .geq 5 0,m 7 6,mt 7 8 1,mt 7 9 0,gt 7 10 (.len 9),gt 7 11 (.aY .lss 8 10),pa 12 7 11] (.cond 12 (sq [m 13 0,m 14 1,ia 15 1 13 14,ld 16 15,o 17 (.bU (.convert 199 3 16) 3),m 4 17] .ret) .skip)) (sq [mi 4 0] .ret)))
def GF:List Zf:=[(.aK 4)]
def HY:aJ Tryz.prog 110 2 AZ GF:=bD [] Tryz.func110
def kL:Ze:=(sq [o 1 (.aP 1 [1] 0),m0 2] (sq [l 3 1 5 1,c1 4 17 3,o 5 (.not 4),m 6 5,gt 6 7 (.dA 1 (some 5) 1),gt 6 8 (.call 67 [7]),gt 6 9 (.aY .eql 8 (k 0)),pa 10 6 9,m 2 10] .ret))
def oB:List Zf:=[(.aK 2)]
def rI:aJ Tryz.prog 36 1 kL oB:=bD [(1,1)] Tryz.func36
end
section
variable{a b:Bool}
section
variable{P:aX}[Tz P]{H:Hp}{d:Option Nat}{next:aM->Hp->Prop}{σ:aM}{x y:Operand}{ty t2:TypeId}{v:Value}
def rG(d:Nat)(Q:Bool->Bool->Hp->Prop)(g:Bool)(H:Hp)(c:Q (a == b) g H):bL P.toPQ (Op.equalIn (d+1) 4 (vb a) (vb b)) Q g H:=by simp only[Op.equalIn,Zg,Zw (bI (P:=P) F6),Zj];exact c
def rE(Q:Bool->Bool->Hp->Prop)(g:Bool)(H:Hp)(c:Q (a == b) g H):bL P.toPQ (Op.equalIn (9999+1) 4 (vb a) (vb b)) Q g H:=rG 9999 Q g H c
def pS(c:σ.get x=some (vb a))(e:σ.get y=some (vb b))(h:next (σ.set d (vb (a != b))) H):(bE.bU (.binOp .neq 4 x y t2) ty).m P d next σ H:=by
 refine Vd (by simp[Op.operands,c,e]) ?_ h;have:execOp (λx=>(σ.get x).getD undef) (aR (.binOp .neq 4 x y t2) ty)=(do let v <-(do eqGuard .neq 4 x y (vb a) (vb b);binOp .neq 4 (vb a) (vb b));pure (.value v)):=by simp[execOp,aR,c,e]
 rw[this];refine Uq λQ g H f=>?_;simp only[eqGuard,Zg,Zj];exact Zg.2 (rE _ _ _ f)
end
end
section
open Go.Z
def kE:Ze:=(sq [o 3 (.aP 3 [3,154,167,173] 0),m0 6] (.seq (sq [l 17 3 5 3,c1 18 36 17,o 19 (.not 18)] (.cond 19 (sq [c0 20 18,m 6 20] .ret) .skip)) (.seq (.drawn [l 21 3 5 3,m 22 1,l 24 3 5 3,m 25 2,(c2 23 44 21 22,(some false)),c2 26 37 24 25,m 7 23,m 8 26]) (sq [l 27 3 5 3,o 9 (.aQ 9 [9,28,103,104] [z0,z0,z0,s0,s0]),ls 9 5 9 27] (sq [f 28 0 9,u (.qU 9 1 28 (k 1))] (sq [l 30 9 5 9,m 31 7,m 32 8,c3 33 45 30 31 32,m 29 33,x 34 29 0,x 35 29 1,m 10 34,m 11 35] (.seq (sq [m 36 11,bk 37 .neq 36 0,m 38 37,mf 38 39 10,gf 38 40 (.len 39),mf 38 41 7,gf 38 42 (.len 41),gf 38 43 (.aY .neq 40 42),po 44 38 43] (.cond 44 (sq [m0 6] .ret) .skip)) (sq [mi 12 0] (.seq (sq [mi 13 0] (.block 0 (.loop (.seq (sq [m 45 13,m 46 8,le 47 46,b 48 .lss 45 47] (.cond 48 .skip (.exit 0))) (.seq (.block 1 (.seq (.seq (.drawn [(m 51 10,none),(m 52 8,none),(m 53 13,none),(ia 54 1 52 53,none),(ld 55 54,none),(ia 56 4 51 55,none),(o 57 (.aN 0 56),none),(ld 58 57,none),(m 59 12,none),(b 60 .neq 58 59,none),(m 61 60,none),(mf 61 62 10,none),(mf 61 63 8,none),(mf 61 64 13,none),(gf 61 65 (.bQ 1 63 64),none),(gf 61 66 (.ld none 65),none),(gf 61 67 (.bQ 4 62 66),none),(gf 61 68 (.aN 1 67),none),(gf 61 69 (.ld none 68),none),(mf 61 70 12,none),(mf 61 71 7,none),(mf 61 72 8,none),(mf 61 73 13,none),(gf 61 74 (.bQ 1 72 73),none),(gf 61 75 (.ld none 74),none),(gf 61 76 (.bQ 1 71 75),none),(gf 61 77 (.ld none 76),none),(gf 61 78 (.aY .add 70 77),none),(gf 61 79 (.aY .neq 69 78),none),(po 80 61 79,none)]) (.cond 80 (sq [m0 6] .ret) .skip)) (.aI [m 81 12,m 82 7,m 83 8,m 84 13,ia 85 1 83 84,ld 86 85,ia 87 1 82 86,ld 88 87,b 89 .add 81 88,m 12 89]))) (.aI [m 49 13,bk 50 .add 49 1,m 13 50])))))) (.seq (sq [m 90 8,le 91 90,bk 92 .gtr 91 3,m 93 92,mf 93 94 8,gf 93 95 (.len 94),gf 93 96 (.aY .gtr 95 (k 3)),po 97 93 96] (.cond 97 (sq [c0 98 18,m 6 98] .ret) .skip)) (sq [m 99 8,le 100 99,m 101 8,le 102 101,f 103 0 9,ls 9 1 103 100,f 104 1 9,ls 9 1 104 102] (sq [l 106 9 5 9,m 107 7,m 108 8,c3 109 45 106 107 108,m 105 109,x 110 105 0,x 111 105 1,m 10 110,m 11 111] (sq [l 113 9 5 9,m 114 7,m 115 8,c3 116 46 113 114 115,m 112 116,x 117 112 0,x 118 112 1,m 14 117,m 15 118] (.seq (sq [m 119 11,bk 120 .neq 119 0,m 121 120,mf 121 122 15,gf 121 123 (.aY .neq 122 (k 0)),po 124 121 123,m 125 124,mf 125 126 10,gf 125 127 (.len 126),mf 125 128 7,gf 125 129 (.len 128),gf 125 130 (.aY .neq 127 129),po 131 125 130] (.cond 131 (sq [m0 6] .ret) .skip)) (.seq (sq [mi 16 0] (.block 2 (.loop (.seq (sq [m 132 16,m 133 10,le 134 133,b 135 .lss 132 134] (.cond 135 .skip (.exit 2))) (.seq (.block 3 (.seq (.drawn [(m 138 10,none),(m 139 16,none),(ia 140 4 138 139,none),(lm 141 4 140,none),(m 142 7,none),(m 143 16,none),(ia 144 1 142 143,none),(ld 145 144,none),(m 146 7,none),(m 147 16,none),(ia 148 1 146 147,none),(ld 149 148,none),(m 150 7,none),(m 151 16,none),(ia 152 1 150 151,none),(ld 153 152,none),(f 154 3 3,none),(ln 155 3 154,none),(m 156 16,none),(ia 157 5 155 156,none),(o 158 (.aN 3 157),none),(ld 159 158,none),(b 160 .add 153 159,none),(o 161 (.build [z0,z0,z0,z0] [(1,(1,145)),(2,(1,149)),(3,(1,160))]),none),(o 162 (.bU (.binOp .neq 65 141 161 65) 4),none),(m 163 162,none),(mf 163 164 14,none),(mf 163 165 16,none),(gf 163 167 (.aU 3 3),none),(gf 163 168 (.dA 3 none 167),none),(mf 163 169 16,none),(gf 163 170 (.bQ 5 168 169),none),(gf 163 171 (.aN 3 170),none),(gf 163 172 (.ld none 171),none),(gf 163 173 (.aU 3 3),none),(gf 163 174 (.dA 3 none 173),none),(mf 163 175 16,none),(gf 163 176 (.bQ 5 174 175),none),(gf 163 177 (.aN 4 176),none),(gf 163 178 (.ld none 177),none),(gf 163 179 (.aY .gtr 172 178),none),(gf 163 166 (.call 40 [164,165]),(some true)),(gf 163 180 (.bU (.binOp .neq 4 166 179 4) 4),none),(po 181 163 180,none)]) (.cond 181 (sq [m0 6] .ret) .skip))) (.aI [m 136 16,bk 137 .add 136 1,m 16 137])))))) (sq [c0 182 18,m 6 182] .ret))))))))))))))))
def iC:List Zf:=[(.aK 6)]
def sU:aJ Tryz.prog 7 3 kE iC:=bD [(3,3),(9,9),(28,9),(103,9),(104,9),(154,3),(167,3),(173,3)] Tryz.func7
end
def pG{α:Type}[Enc α]{H:Hp}{r:Nat}{E:TypeId}{l:List α}(c:H r=none):dD H (H.ins r (.cells (Zb l).toArray E)) E (.slice (some ⟨r,0,none⟩) l.length l.length) l (some r):=
 ⟨⟨VH l,.inr ⟨r,l.length,[],rfl,rfl,by rw[qAf];exact Hp.aG _ _ _,by rw[qAf];exact VH l,dO _⟩⟩,λf e=>by obtain rfl:=iO e;exact c⟩
def pU{α:Type}[Enc α]{H:Hp}{r:Nat}{E:TypeId}(c:H r=none):dD H (H.ins r (.cells #[] E)) E (.slice (some ⟨r,0,none⟩) 0 0) ([]:List α) (some r):=pG (l:=([]:List α)) c
