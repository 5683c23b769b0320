import Derived.Test.YtlhomfgcibjccaaGreatDoorP37
set_option linter.all false
section
namespace Go.LL
section
variable{P:bF}{σ:aN}{H:Hp}{Qe:Ex->aN->Hp->Prop}{b:Ze}
theorem FB{n j:Nat}{I:Nat->Hp->Prop}{env:Nat->List (Nat×Value)}{box:Nat->List (Nat×List Value)}{σ':aN}{f:List Deferred}(k:j<n)(g:I (j+1) H)(i:tI (env (j+1)) σ')(hb:tJ (box (j+1)) σ')(h:σ'.cX=f) :
  ∃e:{ j:Nat // j<=n },n-e.1<n-j/\I e.1 H/\tI (env e.1) σ'/\tJ (box e.1) σ'/\σ'.cX=f:=⟨⟨j+1,k⟩,by show n-(j+1)<n-j;omega,g,i,hb,h⟩
end
end Go.LL
end
open Go Go.LL
namespace Go.Proofs
section
open Go.Z
def n70:Ze:=(sq [o 4 (.fB (.const s0))] (.seq (.drawn [m 6 0,m 7 1,o 8 (.dA (.slice 26 6 none (some 7) none) 26),m 10 0,m 11 1,bk 12 .add 11 1,o 13 (.dA (.slice 26 10 (some 12) none none) 26),(o 5 (.raw (.buildSlice 26 0 #[]) 26),(some false)),(o 9 (.raw (.call (.mk (.builtin .append) #[5,8] #[26,26])) 26),(some false)),(o 14 (.raw (.call (.mk (.builtin .append) #[9,13] #[26,26])) 26),none),m 4 14]) .ret))
def r70:List Zf:=[(.aY 4)]
theorem c70:aO Tryz.prog 57 2 n70 r70:=bZ [] Tryz.func57
def Cy:Ze:=(sq [m0 4] (.seq (sq [mi 5 0] (.block 0 (.loop (.seq (sq [m 6 5,m 7 0,le 8 7,b 9 .lss 6 8,m 10 9,mt 10 11 5,mt 10 12 1,gt 10 13 (.len 12),gt 10 14 (.bQ .lss 11 13),pa 15 10 14] (.cond 15 .skip (.exit 0))) (.seq (.block 1 (.seq (.drawn [m 18 0,m 19 5,ia 20 1 18 19,ld 21 20,m 22 1,m 23 5,ia 24 1 22 23,ld 25 24,b 26 .neq 21 25]) (.cond 26 (.seq (.drawn [m 27 0,m 28 5,ia 29 1 27 28,ld 30 29,m 31 1,m 32 5,ia 33 1 31 32,ld 34 33,b 35 .lss 30 34,m 4 35]) .ret) .skip))) (.aI [m 16 5,bk 17 .add 16 1,m 5 17])))))) (sq [m 36 0,le 37 36,m 38 1,le 39 38,b 40 .lss 37 39,m 4 40] .ret)))
def WaM:List Zf:=[(.aY 4)]
theorem Wa0:aO Tryz.prog 48 2 Cy WaM:=bZ [] Tryz.func48
def n71:Ze:=(sq [m0 4] (sq [m 5 0,le 6 5,m 7 1,le 8 7,b 9 .lss 6 8,m 10 9,mf 10 11 0,gf 10 12 (.len 11),mf 10 13 1,gf 10 14 (.len 13),gf 10 15 (.bQ .eql 12 14),mf 10 16 15,mt 16 17 0,mt 16 18 1,gt 16 19 (.call 48 [17,18]),gf 10 20 (.pick 16 19 k0),po 21 10 20,m 4 21] .ret))
def r71:List Zf:=[(.aY 4)]
theorem c71:aO Tryz.prog 58 2 n71 r71:=bZ [] Tryz.func58
def Cw:Ze:=(sq [o 2 (.cB 2 [2,17] 0),o 4 (.bE 4 [4] [z0,z0,z0,s0,s0])] (sq [l 7 2 5 2,o 5 (.bE 5 [5,8,15,27] [z0,z0,z0,s0,s0]),ls 5 5 5 7] (sq [f 8 4 5,u (.sL 5 1 8 (.const s0))] (.seq (sq [mi 6 0] (.block 0 (.loop (.seq (sq [m 9 6,m 10 1,le 11 10,b 12 .lss 9 11] (.cond 12 .skip (.exit 0))) (.seq (.block 1 (.drawn [f 15 4 5,ln 16 5 15,f 17 4 2,ln 18 2 17,m 19 1,m 20 6,ia 21 1 19 20,ld 22 21,ia 23 3 18 22,lm 24 3 23,(o 25 (.bL 85 1 [s0,z0,z0] [(0,(3,24))]),(some false)),(o 26 (.raw (.call (.mk (.builtin .append) #[16,25] #[23,23])) 23),none),f 27 4 5,ls 5 1 27 26])) (.aI [m 13 6,bk 14 .add 13 1,m 6 14])))))) (sq [l 28 5 5 5,ls 4 5 4 28] .ret)))))
def WaN:List Zf:=[(.oN 4 4 (some 5))]
theorem Wa1:aO Tryz.prog 56 2 Cw WaN:=bZ [(2,2),(4,4),(5,5),(8,5),(15,5),(17,2),(27,5)] Tryz.func56
end
section
variable{a b:Bool}
section
variable{P:bF}[Tz P]{H:Hp}{d:Option Nat}{next:aN->Hp->Prop}{σ:aN}{x y:Operand}{ty t2:TypeId}{v:Value}
theorem WaU(d:Nat)(Q:Bool->Bool->Hp->Prop)(g:Bool)(H:Hp)(e:Q (a == b) g H):cD P.toPQ (Op.equalIn (d+1) 4 (vb a) (vb b)) Q g H:=by simp only[Op.equalIn,Zh,Zy (dC (P:=P) Rl),Zj];exact e
theorem WaV(Q:Bool->Bool->Hp->Prop)(g:Bool)(H:Hp)(e:Q (a == b) g H):cD P.toPQ (Op.equalIn (9999+1) 4 (vb a) (vb b)) Q g H:=WaU 9999 Q g H e
theorem Cz(e:σ.get x=some (vb a))(f:σ.get y=some (vb b))(h:next (σ.set d (vb (a != b))) H):(bC.dA (.binOp .neq 4 x y t2) ty).m P d next σ H:=by
 refine Y5 (by simp[Op.operands,e,f]) ?_ h;have:execOp (λx=>(σ.get x).getD undef) (aP (.binOp .neq 4 x y t2) ty)=(do let v <-(do eqGuard .neq 4 x y (vb a) (vb b);binOp .neq 4 (vb a) (vb b));pure (.value v)):=by simp[execOp,aP,e,f]
 rw[this];refine Uo λQ g H i=>?_;simp only[eqGuard,Zh,Zj];exact Zh.2 (WaV _ _ _ i)
end
def GM(a b:List Int):Bool:=decide (a.length<b.length) || (decide (a.length=b.length) && decide (VI a b<0))
end
section
open Go.Z
def Cv:Ze:=(sq [o 2 (.cB 2 [2,40,92] 0),m0 4] (.seq (sq [l 18 2 5 2,c1 19 36 18,o 20 (.not 19)] (.cond 20 (sq [c0 21 18,m 4 21] .ret) .skip)) (sq [l 23 2 5 2,c1 24 54 23,m 22 24,x 25 22 0,x 26 22 1,m 5 25,m 6 26] (sq [l 28 2 5 2,c1 29 19 28,m 27 29,x 30 27 0,x 31 27 1,m 7 30,m 8 31] (.seq (sq [m 32 6,bk 33 .neq 32 0,m 34 33,mf 34 35 8,gf 34 36 (.bQ .neq 35 (k 0)),po 37 34 36,m 38 37,mf 38 39 5,gf 38 40 (.dE 4 2),gf 38 41 (.jM 2 none 40),gf 38 42 (.len 41),gf 38 43 (.call 55 [39,42]),gf 38 44 (.bQ .neq 43 (k 0)),po 45 38 44,m 46 45,mf 46 47 7,gf 46 48 (.bQ .eql 47 (k 0)),mf 46 49 5,gf 46 50 (.len 49),gf 46 51 (.bQ .gtr 50 (k 0)),gf 46 52 (.dA (.binOp .neq 4 48 51 4) 4),po 53 46 52] (.cond 53 (sq [m0 4] .ret) .skip)) (.seq (sq [m 54 7,bk 55 .gtr 54 0] (.cond 55 (sq [c0 56 18,m 4 56] .ret) .skip)) (.seq (sq [l 58 2 5 2,m 59 5,c2 60 56 58 59,c1 61 19 60,m 57 61,x 62 57 0,x 63 57 1,m 9 62,m 10 63] (sq [m 64 10,bk 65 .neq 64 0,m 66 65,mf 66 67 9,gf 66 68 (.bQ .neq 67 (k 0)),po 69 66 68] (.cond 69 (sq [m0 4] .ret) .skip))) (.seq (sq [mi 11 0] (.block 0 (.loop (.seq (sq [m 70 11,m 71 5,le 72 71,b 73 .lss 70 72] (.cond 73 .skip (.exit 0))) (.seq (.block 1 (.seq (.drawn [l 77 2 5 2,m 78 5,m 79 11,(c2 80 57 78 79,(some false)),c2 81 56 77 80,c1 82 19 81,m 76 82,x 83 76 0,x 84 76 1,m 12 83,m 13 84]) (sq [m 85 13,bk 86 .neq 85 0,m 87 86,mf 87 88 12,gf 87 89 (.bQ .eql 88 (k 0)),po 90 87 89] (.cond 90 (sq [m0 4] .ret) .skip)))) (.aI [m 74 11,bk 75 .add 74 1,m 11 75])))))) (sq [o 14 (.fB (.const s0))] (.seq (sq [mi 15 0] (.block 2 (.loop (.seq (sq [m 91 15,f 92 4 2,ln 93 2 92,le 94 93,b 95 .lss 91 94] (.cond 95 .skip (.exit 2))) (.seq (.block 3 (sq [m 98 1,m 99 15,o 100 (.dA (.binOp .shr 5 98 99 3) 5),o 101 (.dA (.binOp .and 5 100 (.const (.int .u8 1)) 5) 5),o 102 (.bQ .eql 101 (.const (.int .u8 1)))] (.cond 102 (.aI [m 103 14,m 104 15,o 105 (.bL 3 1 [z0] [(0,(1,104))]),o 106 (.raw (.call (.mk (.builtin .append) #[103,105] #[26,26])) 26),m 14 106]) .skip))) (.aI [m 96 15,bk 97 .add 96 1,m 15 97])))))) (sq [l 108 2 5 2,m 109 14,c2 110 56 108 109,c1 111 19 110,m 107 111,x 112 107 0,x 113 107 1,m 16 112,m 17 113] (sq [m 114 17,bk 115 .eql 114 0,m 116 115,mt 116 117 16,gt 116 118 (.bQ .gtr 117 (k 0)),mt 116 119 118,mf 119 120 14,mf 119 121 5,gf 119 122 (.call 58 [120,121]),gf 119 123 (.not 122),gt 116 124 (.pick 119 k1 123),pa 125 116 124,m 126 125,gt 126 127 (.call 18 []),pa 128 126 127,m 4 128] .ret))))))))))))
def TA:List Zf:=[(.aY 4)]
theorem Wa2:aO Tryz.prog 11 2 Cv TA:=bZ [(2,2),(40,2),(92,2)] Tryz.func11
end
variable{α:Type}{H:Hp}{r:Nat}{E:TypeId}
theorem WaQ[Enc α]{l:List α}(f:H r=none):fZ H (H.ins r (.cells (Zb l).toArray E)) E (.slice (some ⟨r,0,none⟩) l.length l.length) l (some r):=
 ⟨⟨VG l,.inr ⟨r,l.length,[],rfl,rfl,by rw[qAj];exact Hp.aF _ _ _,by rw[qAj];exact VG l,aC _⟩⟩,λg e=>by obtain rfl:=dO e;exact f⟩
theorem WaP[Enc α](e:H r=none):fZ H (H.ins r (.cells #[] E)) E (.slice (some ⟨r,0,none⟩) 0 0) ([]:List α) (some r):=WaQ (l:=([]:List α)) e
theorem WaS{x:Int}:aV (H.ins r (.cells [vi x].toArray E)) (.slice (some ⟨r,0,none⟩) 1 1) [x]:=Z2 (l:=[x])
