import Derived.Test.YtlhomfgcibjccaaGreatDoorP37
set_option linter.all false
set_option maxHeartbeats 2000000
open Go Go.LL
namespace Go.Proofs
section
open Go.Z
def Qz:Ze:=(sq [o 3 (.cB 3 [3,10] 0),o 5 (.cB 5 [5] 2),o 6 (.bE 6 [6] [z0,z0,z0,s0,s0])] (sq [l 8 3 5 3,o 7 (.bE 7 [7,13,14] [z0,z0,z0,s0,s0]),ls 7 5 7 8] (sq [o 9 (.raw (.buildSlice 22 0 #[]) 22),f 10 3 3,ln 11 3 10,o 12 (.raw (.call (.mk (.builtin .append) #[9,11] #[22,22])) 22),f 13 3 7,ls 7 1 13 12] (sq [f 14 3 7,ln 15 7 14,m 16 1,l 17 5 2 5,ia 18 5 15 16,o 19 (.bM 1 18),st 36 19 17 0] (sq [l 20 7 5 7,ls 6 5 6 20] .ret)))))
def WaZ:List Zf:=[(.oN 6 6 (some 5))]
theorem Wbb:aO Tryz.prog 42 3 Qz WaZ:=bZ [(3,3),(5,5),(6,6),(7,7),(10,3),(13,7),(14,7)] Tryz.func42
def WaA:Ze:=(sq [o 2 (.cB 2 [2,10,18] 0),mi 4 0,m0 5] (sq [mi 6 0] (.seq (sq [f 10 3 2,ln 11 2 10,m 12 1,ia 13 5 11 12,o 14 (.bM 1 13),o 15 (.bM 0 14),ld 16 15,m 7 16] (.block 0 (.loop (.seq (sq [m 17 7,f 18 3 2,ln 19 2 18,m 20 1,ia 21 5 19 20,o 22 (.bM 1 21),o 23 (.bM 1 22),ld 24 23,b 25 .leq 17 24] (.cond 25 .skip (.exit 0))) (.seq (.block 1 (.seq (.drawn [l 29 2 5 2,m 30 1,m 31 7,(c1 32 39 31,(some false)),c3 33 42 29 30 32,c1 34 19 33,m 28 34,x 35 28 0,x 36 28 1,m 8 35,m 9 36]) (.seq (sq [m 37 9,bk 38 .neq 37 0] (.cond 38 (sq [mi 4 0,m0 5] .ret) .skip)) (.aI [m 39 6,m 40 8,o 41 (.dA (.call (.mk (.builtin .max) #[39,40] #[3,3])) 3),m 6 41])))) (.aI [m 26 7,bk 27 .add 26 1,m 7 27])))))) (sq [m 42 6,m 4 42,m1 5] .ret))))
def WaY:List Zf:=[(.aY 4),(.aY 5)]
theorem Wba:aO Tryz.prog 60 2 WaA WaY:=bZ [(2,2),(10,2),(18,2)] Tryz.func60
end
section
variable{a b:Bool}
section
variable{P:bF}[Tz P]{H:Hp}{d:Option Nat}{next:aN->Hp->Prop}{σ:aN}{x y:Operand}{ty t2:TypeId}{v:Value}
theorem Wa8(d:Nat)(Q:Bool->Bool->Hp->Prop)(g:Bool)(H:Hp)(hq:Q (a == b) g H):cD P.toPQ (Op.equalIn (d+1) 4 (vb a) (vb b)) Q g H:=by simp only[Op.equalIn,Zh,Zy (dC (P:=P) Rl),Zj];exact hq
theorem Wa9(Q:Bool->Bool->Hp->Prop)(g:Bool)(H:Hp)(hq:Q (a == b) g H):cD P.toPQ (Op.equalIn (9999+1) 4 (vb a) (vb b)) Q g H:=Wa8 9999 Q g H hq
theorem Cr(e1:σ.get x=some (vb a))(e2:σ.get y=some (vb b))(h:next (σ.set d (vb (a != b))) H):(bC.dA (.binOp .neq 4 x y t2) ty).m P d next σ H:=by
 refine Y5 (by simp[Op.operands,e1,e2]) ?_ h;have:execOp (λx=>(σ.get x).getD undef) (aP (.binOp .neq 4 x y t2) ty)=(do let v <-(do eqGuard .neq 4 x y (vb a) (vb b);binOp .neq 4 (vb a) (vb b));pure (.value v)):=by simp[execOp,aP,e1,e2]
 rw[this];refine Uo λQ g H hq=>?_;simp only[eqGuard,Zh,Zj];exact Zh.2 (Wa9 _ _ _ hq)
end
theorem WaV{α:Type}{p:List α->Prop}(h0:p [])(h1:∀l x,p l->p (l++[x])):∀l,p l:=by
 have:∀(n:Nat) (l:List α),l.length=n->p l:=by
  intro n;induction n with
  | zero=>intro l hl;rw[qAf hl];exact h0
  | succ n ih=>
   intro l hl;have dG:l≠[]:=by rintro rfl;simp at hl
   rw[<-List.dropLast_concat_getLast dG];exact h1 _ _ (ih _ (by simp;omega))
 exact λl=>this _ l rfl
end
section
open Go.Z
def WaC:Ze:=(sq [o 2 (.cB 2 [2,53,79] 0),m0 4] (.seq (sq [l 13 2 5 2,c1 14 36 13,o 15 (.not 14)] (.cond 15 (sq [c0 16 18,m 4 16] .ret) .skip)) (sq [l 18 2 5 2,c1 19 59 18,m 17 19,x 20 17 0,x 21 17 1,x 22 17 2,m 5 20,m 6 21,m 7 22] (sq [l 24 2 5 2,c1 25 19 24,m 23 25,x 26 23 0,x 27 23 1,m 8 26,m 9 27] (.seq (sq [m 28 9,bk 29 .neq 28 0,m 30 29,mf 30 31 7,gf 30 32 (.bQ .eql 31 (k 0)),mf 30 33 8,gf 30 34 (.bQ .gtr 33 (k 0)),gf 30 35 (.dA (.binOp .neq 4 32 34 4) 4),po 36 30 35] (.cond 36 (sq [m0 4] .ret) .skip)) (.seq (sq [m 37 7,bk 38 .neq 37 0] (.cond 38 (sq [m 39 7,bk 40 .eql 39 9,m 41 40,mt 41 42 5,gt 41 43 (.bQ .eql 42 (k 0)),pa 44 41 43,m 45 44,mt 45 46 6,gt 45 47 (.bQ .eql 46 (k 0)),pa 48 45 47,m 49 48,gt 49 50 (.call 18 []),pa 51 49 50,m 4 51] .ret) .skip)) (.seq (sq [m 52 5,f 53 3 2,ln 54 2 53,le 55 54,bk 56 .sub 55 1,o 57 (.call 50 [52,(.const (.int .i64 (Int.negSucc 0))),56]),o 58 (.not 57),m 59 58,mf 59 60 5,gf 59 61 (.bQ .lss 60 (k 0)),mf 59 62 61,mt 62 63 6,mt 62 64 8,gt 62 65 (.bQ .neq 63 64),gf 59 66 (.pick 62 65 k0),po 67 59 66,m 68 67,mf 68 69 5,gf 68 70 (.bQ .geq 69 (k 0)),mf 68 71 70,mt 71 72 6,mt 71 73 8,gt 71 74 (.bQ .geq 72 73),gf 68 75 (.pick 71 74 k0),po 76 68 75] (.cond 76 (sq [m0 4] .ret) .skip)) (sq [m 77 1,o 78 (.dA (.convert 5 3 77) 3),f 79 3 2,ln 80 2 79,le 81 80,o 82 (.dA (.binOp .rem 3 78 81 3) 3),m 10 82] (sq [l 84 2 5 2,m 85 10,c2 86 60 84 85,m 83 86,x 87 83 0,x 88 83 1,m 11 87,m 12 88] (.seq (sq [m 89 12,o 90 (.not 89),m 91 90,mf 91 92 11,mf 91 93 6,gf 91 94 (.bQ .lss 92 93),po 95 91 94,m 96 95,mf 96 97 11,mf 96 98 6,gf 96 99 (.bQ .eql 97 98),mf 96 100 99,mt 100 101 5,gt 100 102 (.bQ .geq 101 (k 0)),gf 96 103 (.pick 100 102 k0),mf 96 104 103,mt 104 105 10,mt 104 106 5,gt 104 107 (.bQ .lss 105 106),gf 96 108 (.pick 104 107 k0),po 109 96 108] (.cond 109 (sq [m0 4] .ret) .skip)) (.seq (sq [m 110 5,bk 111 .geq 110 0] (.cond 111 (.aI [l 113 2 5 2,m 114 5,c2 115 60 113 114,m 112 115,x 116 112 0,x 117 112 1,m 11 116,m 12 117]) .skip)) (sq [m 118 12,m 119 118,mt 119 120 5,gt 119 121 (.bQ .lss 120 (k 0)),mt 119 122 121,mf 122 123 11,mf 122 124 6,gf 122 125 (.bQ .eql 123 124),gt 119 126 (.pick 122 k1 125),pa 127 119 126,m 128 127,gt 128 129 (.call 18 []),pa 130 128 129,m 4 130] .ret))))))))))))
def Cv:List Zf:=[(.aY 4)]
theorem Wbc:aO Tryz.prog 12 2 WaC Cv:=bZ [(2,2),(53,2),(79,2)] Tryz.func12
end
variable{α:Type}{H:Hp}{r:Nat}{E:TypeId}
theorem Wa2[Enc α]{l:List α}(hr:H r=none):fZ H (H.ins r (.cells (Zb l).toArray E)) E (.slice (some ⟨r,0,none⟩) l.length l.length) l (some r):=
 ⟨⟨VG l,.inr ⟨r,l.length,[],rfl,rfl,by rw[qAj];exact Hp.aF _ _ _,by rw[qAj];exact VG l,aC _⟩⟩,λr' e=>by obtain rfl:=dO e;exact hr⟩
theorem Wa1[Enc α](hr:H r=none):fZ H (H.ins r (.cells #[] E)) E (.slice (some ⟨r,0,none⟩) 0 0) ([]:List α) (some r):=Wa2 (l:=([]:List α)) hr
