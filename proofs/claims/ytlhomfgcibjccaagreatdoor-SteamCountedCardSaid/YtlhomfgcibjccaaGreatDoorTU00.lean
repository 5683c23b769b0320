import Derived.Test.YtlhomfgcibjccaaGreatDoorP39
set_option linter.all false
open Go Go.LL
namespace Go.Proofs
section
open Go.Z
def iI:Ze:=(sq [o 1 (.aP 1 [1,10,23] 0),o 2 (.cY (.const s0))] (sq [o 8 (.aO 26 1 [s0] [(0,(1,(.const s0)))]),m 3 8] (.seq (sq [mi 4 0] (.block 0 (.loop (.seq (sq [m 9 4,f 10 3 1,ln 11 1 10,le 12 11,b 13 .lss 9 12] (.cond 13 .skip (.exit 0))) (.seq (.block 1 (sq [o 5 (.cY (.const s0))] (.seq (sq [mi 6 0] (.block 2 (.loop (.seq (sq [m 16 6,m 17 3,le 18 17,b 19 .lss 16 18] (.cond 19 .skip (.exit 2))) (.seq (.block 3 (sq [mi 7 0] (.block 4 (.loop (.seq (sq [m 22 7,f 23 3 1,ln 24 1 23,le 25 24,b 26 .lss 22 25] (.cond 26 .skip (.exit 4))) (.seq (.block 5 (sq [m 29 3,m 30 6,ia 31 1 29 30,ld 32 31,m 33 7,c2 34 40 32 33,o 35 (.not 34)] (.cond 35 (.aI [m 36 5,o 37 (.raw (.buildSlice 26 0 #[]) 26),m 38 3,m 39 6,ia 40 1 38 39,ld 41 40,o 42 (.raw (.call (.mk (.builtin .append) #[37,41] #[26,26])) 26),m 43 7,o 44 (.aO 3 1 [z0] [(0,(1,43))]),o 45 (.raw (.call (.mk (.builtin .append) #[42,44] #[26,26])) 26),o 46 (.aO 26 1 [s0] [(0,(1,45))]),o 47 (.raw (.call (.mk (.builtin .append) #[36,46] #[68,68])) 68),m 5 47]) .skip))) (.aI [m 27 7,bk 28 .add 27 1,m 7 28]))))))) (.aI [m 20 6,bk 21 .add 20 1,m 6 21])))))) (.aI [m 48 5,m 3 48])))) (.aI [m 14 4,bk 15 .add 14 1,m 4 15])))))) (sq [m 49 3,m 2 49] .ret))))
def lJ:List Zf:=[(.aK 2)]
def mR:aJ Tryz.prog 47 1 iI lJ:=bD [(1,1),(10,1),(23,1)] Tryz.func47
def hZ:Ze:=(sq [m0 4] (.seq (sq [mi 5 0] (.block 0 (.loop (.seq (sq [m 6 5,m 7 0,le 8 7,b 9 .lss 6 8,m 10 9,mt 10 11 5,mt 10 12 1,gt 10 13 (.len 12),gt 10 14 (.aY .lss 11 13),pa 15 10 14] (.cond 15 .skip (.exit 0))) (.seq (.block 1 (.seq (.drawn [m 18 0,m 19 5,ia 20 1 18 19,ld 21 20,m 22 1,m 23 5,ia 24 1 22 23,ld 25 24,b 26 .neq 21 25]) (.cond 26 (.seq (.drawn [m 27 0,m 28 5,ia 29 1 27 28,ld 30 29,m 31 1,m 32 5,ia 33 1 31 32,ld 34 33,b 35 .lss 30 34,m 4 35]) .ret) .skip))) (.aI [m 16 5,bk 17 .add 16 1,m 5 17])))))) (sq [m 36 0,le 37 36,m 38 1,le 39 38,b 40 .lss 37 39,m 4 40] .ret)))
def lK:List Zf:=[(.aK 4)]
def mS:aJ Tryz.prog 48 2 hZ lK:=bD [] Tryz.func48
def l8:Ze:=(sq [m0 4] (.seq (sq [mi 5 0] (.block 0 (.loop (.seq (sq [m 6 5,m 7 0,le 8 7,b 9 .lss 6 8] (.cond 9 .skip (.exit 0))) (.seq (.block 1 (sq [m 12 0,m 13 5,ia 14 1 12 13,ld 15 14,m 16 1,b 17 .eql 15 16] (.cond 17 (sq [m1 4] .ret) .skip))) (.aI [m 10 5,bk 11 .add 10 1,m 5 11])))))) (sq [m0 4] .ret)))
def rU:List Zf:=[(.aK 4)]
def sE:aJ Tryz.prog 40 2 l8 rU:=bD [] Tryz.func40
def iJ:Ze:=(sq [o 1 (.aP 1 [1] 0),m0 2] (sq [l 3 1 5 1,c1 4 17 3,o 5 (.not 4),m 6 5,gt 6 7 (.dA 1 (some 5) 1),gt 6 8 (.call 67 [7]),gt 6 9 (.aY .eql 8 (k 0)),pa 10 6 9,m 2 10] .ret))
def lM:List Zf:=[(.aK 2)]
def mQ:aJ Tryz.prog 36 1 iJ lM:=bD [(1,1)] Tryz.func36
end
section
variable{a b:Bool}
section
variable{P:aX}[Tz P]{H:Hp}{d:Option Nat}{next:aM->Hp->Prop}{σ:aM}{x y:Operand}{ty t2:TypeId}{v:Value}
def mV(d:Nat)(Q:Bool->Bool->Hp->Prop)(g:Bool)(H:Hp)(c:Q (a == b) g H):bL P.toPQ (Op.equalIn (d+1) 4 (vb a) (vb b)) Q g H:=by simp only[Op.equalIn,Zg,Zw (bI (P:=P) F6),Zj];exact c
def kF(Q:Bool->Bool->Hp->Prop)(g:Bool)(H:Hp)(c:Q (a == b) g H):bL P.toPQ (Op.equalIn (9999+1) 4 (vb a) (vb b)) Q g H:=mV 9999 Q g H c
def lV{a b:Bool}(c:σ.get x=some (vb a))(e:σ.get y=some (vb b))(h:next (σ.set d (vb (a == b))) H):(bE.bU (.binOp .eql 4 x y t2) ty).m P d next σ H:=by
 refine Vd (by simp[Op.operands,c,e]) ?_ h;have:execOp (λx=>(σ.get x).getD undef) (aR (.binOp .eql 4 x y t2) ty)=(do let v <-(do eqGuard .eql 4 x y (vb a) (vb b);binOp .eql 4 (vb a) (vb b));pure (.value v)):=by simp[execOp,aR,c,e]
 rw[this];refine Uq λQ g H f=>?_;simp only[eqGuard,Zg,Zj];exact Zg.2 (kF _ _ _ f)
def fH(c:σ.get x=some (vb a))(e:σ.get y=some (vb b))(h:next (σ.set d (vb (a != b))) H):(bE.bU (.binOp .neq 4 x y t2) ty).m P d next σ H:=by
 refine Vd (by simp[Op.operands,c,e]) ?_ h;have:execOp (λx=>(σ.get x).getD undef) (aR (.binOp .neq 4 x y t2) ty)=(do let v <-(do eqGuard .neq 4 x y (vb a) (vb b);binOp .neq 4 (vb a) (vb b));pure (.value v)):=by simp[execOp,aR,c,e]
 rw[this];refine Uq λQ g H f=>?_;simp only[eqGuard,Zg,Zj];exact Zg.2 (kF _ _ _ f)
end
end
section
open Go.Z
def iC:Ze:=(sq [o 1 (.aP 1 [1] 0),m0 2] (.seq (sq [l 18 1 5 1,c1 19 36 18,o 20 (.not 19)] (.cond 20 (sq [c0 21 18,m 2 21] .ret) .skip)) (sq [l 23 1 5 1,c1 24 30 23,m 22 24,x 25 22 0,x 26 22 1,m 3 25,m 4 26] (sq [l 28 1 5 1,c1 29 32 28,m 27 29,x 30 27 0,x 31 27 1,x 32 27 2,x 33 27 3,o 6 (.aQ 6 [6,110,117] [z0,z0]),m 5 30,ls 6 2 6 31,m 7 32,m 8 33] (sq [l 35 1 5 1,c1 36 19 35,m 34 36,x 37 34 0,x 38 34 1,m 9 37,m 10 38] (.seq (sq [m 39 10,bk 40 .neq 39 0,m 41 40,mf 41 42 4,mf 41 43 8,gf 41 44 (.aY .neq 42 43),po 45 41 44,m 46 45,mf 46 47 4,gf 46 48 (.aY .eql 47 (k 0)),mf 46 49 9,gf 46 50 (.aY .gtr 49 (k 0)),gf 46 51 (.bU (.binOp .neq 4 48 50 4) 4),po 52 46 51] (.cond 52 (sq [m0 2] .ret) .skip)) (.seq (sq [m 53 4,bk 54 .neq 53 0] (.cond 54 (sq [m 55 4,bk 56 .eql 55 9,m 57 56,mt 57 58 7,gt 57 59 (.not 58),pa 60 57 59,m 61 60,mt 61 62 5,gt 61 63 (.len 62),gt 61 64 (.aY .eql 63 (k 0)),pa 65 61 64,m 66 65,gt 66 67 (.call 18 []),pa 68 66 67,m 2 68] .ret) .skip)) (.seq (sq [m 69 7,m 70 3,bk 71 .gtr 70 0,o 72 (.bU (.binOp .neq 4 69 71 4) 4)] (.cond 72 (sq [m0 2] .ret) .skip)) (sq [l 73 1 5 1,c1 74 47 73,m 11 74] (sq [mi 12 0] (sq [m0 13] (.seq (sq [mi 14 0] (.block 0 (.loop (.seq (sq [m 75 14,m 76 11,le 77 76,b 78 .lss 75 77] (.cond 78 .skip (.exit 0))) (.seq (.block 1 (.seq (.drawn [l 82 1 5 1,m 83 11,m 84 14,ia 85 1 83 84,ld 86 85,c2 87 28 82 86,m 81 87,x 88 81 0,x 89 81 1,m 15 88,m 16 89]) (.seq (sq [m 90 16,bk 91 .neq 90 0] (.cond 91 (sq [m0 2] .ret) .skip)) (.seq (sq [m 92 15,bk 93 .neq 92 1] (.cond 93 (.exit 1) .skip)) (sq [m 94 12,bk 95 .add 94 1,m 12 95] (.seq (.drawn [l 97 1 5 1,m 98 11,m 99 14,ia 100 1 98 99,ld 101 100,o 17 (.aQ 17 [17,108,115] [z0,z0]),(c2 102 24 97 101,(some false)),m 96 102,x 103 96 0,x 104 96 1,ls 17 2 17 103,m 16 104]) (.seq (sq [m 105 16,bk 106 .neq 105 0,m 107 106,gf 107 108 (.aU 1 17),gf 107 109 (.dA 17 none 108),gf 107 110 (.aU 1 6),gf 107 111 (.dA 6 none 110),gf 107 112 (.aY .lss 109 111),po 113 107 112,m 114 113,gf 114 115 (.aU 1 17),gf 114 116 (.dA 17 none 115),gf 114 117 (.aU 1 6),gf 114 118 (.dA 6 none 117),gf 114 119 (.aY .eql 116 118),mf 114 120 119,mt 120 121 11,mt 120 122 14,gt 120 123 (.bQ 1 121 122),gt 120 124 (.ld none 123),mt 120 125 5,gt 120 126 (.call 48 [124,125]),gf 114 127 (.pick 120 126 k0),po 128 114 127] (.cond 128 (sq [m0 2] .ret) .skip)) (sq [m 129 11,m 130 14,ia 131 1 129 130,ld 132 131,m 133 5,c2 134 23 132 133] (.cond 134 (.aI [l 135 17 2 17,l 136 6 2 6,o 137 (.bU (.binOp .eql 36 135 136 36) 4),m 13 137]) .skip))))))))) (.aI [m 79 14,bk 80 .add 79 1,m 14 80])))))) (sq [m 138 12,m 139 3,b 140 .eql 138 139,m 141 140,mt 141 142 13,mt 141 143 7,gt 141 144 (.bU (.binOp .eql 4 142 143 4) 4),pa 145 141 144,m 146 145,gt 146 147 (.call 18 []),pa 148 146 147,m 2 148] .ret)))))))))))))
def gG:List Zf:=[(.aK 2)]
def nN:aJ Tryz.prog 8 1 iC gG:=bD [(1,1),(6,6),(17,17),(108,17),(110,6),(115,17),(117,6)] Tryz.func8
end
variable{α:Type}{H:Hp}{r:Nat}{E:TypeId}
def mI[Enc α]{l:List α}(c:H r=none):dD H (H.ins r (.cells (Zb l).toArray E)) E (.slice (some ⟨r,0,none⟩) l.length l.length) l (some r):=
 ⟨⟨VH l,.inr ⟨r,l.length,[],rfl,rfl,by rw[qAf];exact Hp.aG _ _ _,by rw[qAf];exact VH l,dO _⟩⟩,λf e=>by obtain rfl:=iO e;exact c⟩
def lW[Enc α](c:H r=none):dD H (H.ins r (.cells #[] E)) E (.slice (some ⟨r,0,none⟩) 0 0) ([]:List α) (some r):=mI (l:=([]:List α)) c
