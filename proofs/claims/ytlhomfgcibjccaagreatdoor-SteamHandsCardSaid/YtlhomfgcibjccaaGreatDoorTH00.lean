import Derived.Test.YtlhomfgcibjccaaGreatDoorP37
set_option linter.all false
open Go Go.LL Go.Z
namespace Go.Proofs
def GM:Ze:=(sq [o 2 (.cB 2 [2] 0),o 4 (.bE 4 [4] [z0,z0,z0,s0,s0])] (sq [l 6 2 5 2,o 5 (.bE 5 [5,8] [z0,z0,z0,s0,s0]),ls 5 5 5 6] (sq [m 7 1,f 8 1 5,ls 5 1 8 7] (sq [l 9 5 5 5,ls 4 5 4 9] .ret))))
def Cw:List Zf:=[(.oN 4 4 (some 5))]
theorem Cu:aO Tryz.prog 49 2 GM Cw:=bZ [(2,2),(4,4),(5,5),(8,5)] Tryz.func49
def FB:Ze:=(sq [o 2 (.cB 2 [2] 0),m0 4] (.seq (sq [l 12 2 5 2,c1 13 36 12,o 14 (.not 13)] (.cond 14 (sq [c0 15 18,m 4 15] .ret) .skip)) (sq [l 17 2 5 2,c1 18 34 17,m 16 18,x 19 16 0,x 20 16 1,x 21 16 2,m 5 19,m 6 20,m 7 21] (sq [m 22 1,o 23 (.dA (.convert 5 3 22) 3),o 24 (.dA (.binOp .rem 3 23 (k 3) 3) 3),o 25 (.bQ .add (k 1) 24),m 8 25] (sq [l 27 2 5 2,m 28 8,c2 29 49 27 28,c1 30 30 29,m 26 30,x 31 26 0,x 32 26 1,m 9 31,m 10 32] (.seq (sq [m 33 7,m 34 10,b 35 .neq 33 34] (.cond 35 (sq [m0 4] .ret) .skip)) (.seq (sq [m 36 7,bk 37 .neq 36 0] (.cond 37 (sq [m 38 7,bk 39 .eql 38 9,m 40 39,mt 40 41 5,gt 40 42 (.bQ .eql 41 (k 0)),pa 43 40 42,m 44 43,mt 44 45 6,gt 44 46 (.not 45),pa 47 44 46,m 48 47,gt 48 49 (.call 18 []),pa 50 48 49,m 4 50] .ret) .skip)) (.seq (sq [m 51 6,o 52 (.not 51)] (.cond 52 (sq [m 53 5,bk 54 .eql 53 0,m 55 54,mt 55 56 9,gt 55 57 (.bQ .eql 56 (k 0)),pa 58 55 57,m 59 58,gt 59 60 (.call 18 []),pa 61 59 60,m 4 61] .ret) .skip)) (.seq (sq [m 62 5,o 63 (.call 50 [62,(k 1),(k 3)]),o 64 (.not 63),m 65 64,mf 65 66 8,mf 65 67 5,gf 65 68 (.bQ .lss 66 67),mf 65 69 68,mt 69 70 9,gt 69 71 (.bQ .gtr 70 (k 0)),gf 65 72 (.pick 69 71 k0),po 73 65 72] (.cond 73 (sq [m0 4] .ret) .skip)) (sq [l 75 2 5 2,m 76 5,c2 77 49 75 76,c1 78 30 77,m 74 78,x 79 74 0,x 80 74 1,m 11 79,m 7 80] (sq [m 81 7,bk 82 .eql 81 0,m 83 82,mt 83 84 11,gt 83 85 (.bQ .gtr 84 (k 0)),pa 86 83 85,m 87 86,gt 87 88 (.call 18 []),pa 89 87 88,m 4 89] .ret)))))))))))
def kN:List Zf:=[(.aY 4)]
theorem Cs:aO Tryz.prog 9 2 FB kN:=bZ [(2,2)] Tryz.func9
