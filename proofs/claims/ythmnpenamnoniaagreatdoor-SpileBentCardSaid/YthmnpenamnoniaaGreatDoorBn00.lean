import Derived.Test.YthmnpenamnoniaaGreatDoorP43
import Derived.Conc.HoldsTime
import Derived.Test.YthmnpenamnoniaaGreatDoorTie
import Derived.Test.YthmnpenamnoniaaGreatDoorCards
import Derived.ProofKit
import Derived.LaidMore
import Derived.Carry
import Derived.Stop.Joined
import Derived.OpenShut
set_option linter.all false
section
namespace Go.LL
section
variable  {P:Prg}{d:Option Nat}{next:NSt->Hp->Prop}{σ:NSt}{H:Hp}{x y z:Operand}{v:Value}{ty:TypeId}
theorem WaZ {k:IntKind}{m n:Int}{t t2:TypeId}(e1:σ.get x=some (.int k m))(e2:σ.get y=some (.int k n))(hn:n≠0)(h:next (σ.set d (.int k (m.tmod n))) H):(NOp.pur (.binOp .rem t x y t2) ty).m P d next σ H:=by
 refine Zb9 (by simp[Op.operands,e1,e2]) ?_ h
 have:execOp (fun x=>(σ.get x).getD undef) (bare (.binOp .rem t x y t2) ty)=pure (.value (.int k (m.tmod n))):=by simp[execOp,bare,e1,e2,eqGuard,binOp,Op.intDiv,hn]
 rw[this]
 exact fun Q g H hq=>hq
end
end Go.LL
end
section
open Go Go.LL Go.Z
namespace Go.Proofs
def n1011:Zaj:=(sq [o 2 (.lbox 2 [2] (t 0)),o 4 (.mov (.const s0)),mi 5 0] (sq [l 10 2 5 2,m 11 1,c2 12 55 10 11,m 9 12,x 13 9 0,x 14 9 1,x 15 9 2,o 6 (.lzero 6 [6] [z0,z0,z0,s0,s0]),o 7 (.lzero 7 [7] [z0,z0,z0,z0,z0,z0,z0]),ls 6 5 6 13,ls 7 7 7 14,m 8 15] (.seq (sq [m 16 8,bk 17 .neq 16 0] (.cond (t 17) (sq [m 18 8,o 4 (.mov (.const s0)),m 5 18] .ret) .skip)) (sq [l 19 6 5 6,l 20 7 7 7,c2 21 56 19 20,m 4 21,mi 5 0] .ret))))
def r1011:List NRes:=[(.slot 4),(.slot 5)]
theorem c1011:IsN Tryz.prog 11 2 n1011 r1011:=isq [(2,2),(6,6),(7,7)] Tryz.func11
def n1122:Zaj:=(sq [o 2 (.lbox 2 [2] (t 0)),mi 4 0] (.seq (.block 0 (sq [m 6 1,le 7 6,l 8 2 5 2,c1 9 125 8,b 10 .neq 7 9,m 5 10] (.cond (t 5) (sq [mi 4 2] .ret) (sq [m 12 1,o 13 (.call 153 [(t 12),(.func 176)]),m 11 13] (.cond (t 11) (sq [mi 4 1] .ret) .skip))))) (sq [mi 4 0] .ret)))
def r1122:List NRes:=[(.slot 4)]
theorem c1122:IsN Tryz.prog 122 2 n1122 r1122:=isq [(2,2)] Tryz.func122
def n1176:Zaj:=(sq [m0 2] (sq [m 3 0,o 4 (.call 177 [(t 3),(k 0),(k 959)]),o 5 (.not (t 4)),m 2 5] .ret))
def r1176:List NRes:=[(.slot 2)]
theorem c1176:IsN Tryz.prog 176 1 n1176 r1176:=isq [] Tryz.func176
def n1270:Zaj:=(sq [o 1 (.lbox 1 [1,3,4,9,10,16,17] (t 0)),mi 2 0] (.seq (sq [f 3 0 1,f 4 0 3,ln 5 1 4,o 6 (.call 177 [(t 5),(k 0),(k 99)]),o 7 (.not (t 6)),m 8 7,gf 8 9 (.lfadr 0 1),gf 8 10 (.lfadr 1 9),gf 8 11 (.lld 1 none 10),gf 8 12 (.call 177 [(t 11),(k 0),(k 99)]),gf 8 13 (.not (t 12)),po 14 8 13,m 15 14,gf 15 16 (.lfadr 0 1),gf 15 17 (.lfadr 2 16),gf 15 18 (.lld 1 none 17),gf 15 19 (.call 177 [(t 18),(k 0),(k 5)]),gf 15 20 (.not (t 19)),po 21 15 20] (.cond (t 21) (sq [mi 2 1] .ret) .skip)) (sq [mi 2 0] .ret)))
def r1270:List NRes:=[(.slot 2)]
theorem c1270:IsN Tryz.prog 270 1 n1270 r1270:=isq [(1,1),(3,1),(4,1),(9,1),(10,1),(16,1),(17,1)] Tryz.func270
def n1275:Zaj:=(sq [o 4 (.lbox 4 [4,10,14,16,21,27,29] (t 0)),m0 8] (sq [m 9 1,f 10 0 4,ln 11 4 10,b 12 .leq 9 11,m 13 12,gt 13 14 (.lfadr 0 4),gt 13 15 (.lld 4 none 14),gt 13 16 (.lfadr 1 4),gt 13 17 (.lld 4 none 16),gt 13 18 (.bin .leq (t 15) (t 17)),pa 19 13 18,m 20 19,gt 20 21 (.lfadr 1 4),gt 20 22 (.lld 4 none 21),mt 20 23 2,gt 20 24 (.bin .leq (t 22) (t 23)),pa 25 20 24,m 26 25,gt 26 27 (.lfadr 1 4),gt 26 28 (.lld 4 none 27),gt 26 29 (.lfadr 0 4),gt 26 30 (.lld 4 none 29),gt 26 31 (.bin .sub (t 28) (t 30)),mt 26 32 3,gt 26 33 (.bin .lss (t 31) (t 32)),pa 34 26 33,m 8 34] .ret))
def r1275:List NRes:=[(.slot 8)]
theorem c1275:IsN Tryz.prog 275 4 n1275 r1275:=isq [(4,4),(10,4),(14,4),(16,4),(21,4),(27,4),(29,4)] Tryz.func275
def n1123:Zaj:=(sq [o 2 (.lzero 2 [2] [z0,z0,z0,z0,z0,z0,z0])] (sq [o 3 (.raw (.alloc 125) 0)] (sq [o 4 (.pur (.slice 125 (t 3) none none none) 29),m 5 0,o 6 (.raw (.call (.mk (.builtin .copy) #[(t 4),(t 5)] #[29,29])) 3)] (sq [lm 7 7 3,ls 2 7 2 7] .ret))))
def r1123:List NRes:=[(.var 2 2 (some 7))]
theorem c1123:IsN Tryz.prog 123 1 n1123 r1123:=isq [(2,2)] Tryz.func123
def n1177:Zaj:=(sq [m0 6] (sq [m 7 1,m 8 0,b 9 .leq 7 8,m 10 9,mt 10 11 0,mt 10 12 2,gt 10 13 (.bin .leq (t 11) (t 12)),pa 14 10 13,m 6 14] .ret))
def r1177:List NRes:=[(.slot 6)]
theorem c1177:IsN Tryz.prog 177 3 n1177 r1177:=isq [] Tryz.func177
def n1271:Zaj:=(sq [o 1 (.lbox 1 [1,9,10] (t 0)),mi 2 0] (.seq (.block 0 (sq [l 4 1 5 1,c1 5 125 4,o 6 (.call 177 [(t 5),(k 3),(k 7)]),o 7 (.not (t 6)),m 3 7] (.cond (t 3) (sq [mi 2 2] .ret) (sq [f 9 0 1,f 10 3 9,ln 11 1 10,o 12 (.call 273 [(t 11),(.func 274)]),m 8 12] (.cond (t 8) (sq [mi 2 1] .ret) .skip))))) (sq [mi 2 0] .ret)))
def r1271:List NRes:=[(.slot 2)]
theorem c1271:IsN Tryz.prog 271 1 n1271 r1271:=isq [(1,1),(9,1),(10,1)] Tryz.func271
def n73:Zaj:=(sq [o 2 (.lbox 2 [2,10,17,31,39,44] (t 0)),o 4 (.mov (.const s0)),o 5 (.lzero 5 [5] [z0,z0])] (sq [o 6 (.mov (.const s0))] (.seq (sq [mi 7 0] (.block 0 (.loop (.seq (sq [m 9 7,f 10 2 2,ln 11 2 10,le 12 11,b 13 .lss 9 12] (.cond (t 13) .skip (.exit 0))) (.seq (.block 1 (.drawn [(m 16 6,none),(f 17 2 2,none),(ln 18 2 17,none),(m 19 7,none),(ia 20 5 18 19,none),(o 21 (.fadr 0 (t 20)),none),(lm 22 2 21,none),(m 23 1,none),(m 24 7,none),(c2 25 51 23 24,(some true)),(c2 26 50 22 25,(some false)),(o 27 (.buildS 3 1 [z0] [(0,(1,(t 26)))]),(some false)),(o 28 (.raw (.call (.mk (.builtin .append) #[(t 16),(t 27)] #[29,29])) 29),none),(m 6 28,none)])) (.ops [m 14 7,bk 15 .add 14 1,m 7 15])))))) (.seq (.drawn [(m 29 1,none),(f 31 2 2,none),(ln 32 2 31,none),(le 33 32,none),(bk 34 .sub 33 1,none),(m 37 1,none),(f 39 1 2,none),(ln 40 2 39,none),(o 41 (.bin .mul (k 2) (t 40)),none),(bk 42 .add 41 1,none),(f 44 1 2,none),(ln 45 2 44,none),(o 8 (.lzero 8 [8,48,51] [z0,z0]),none),(o 30 (.call 51 [(t 29),(k 4)]),(some false)),(o 35 (.pur (.binOp .rem 3 (t 30) (t 34) 3) 3),none),(o 36 (.bin .add (k 1) (t 35)),none),(o 38 (.call 51 [(t 37),(k 5)]),(some false)),(o 43 (.pur (.binOp .rem 3 (t 38) (t 42) 3) 3),none),(b 46 .sub 43 45,none),(o 47 (.build [z0,z0] [(0,(1,(t 36))),(1,(1,(t 46)))]),none),(ls 8 2 8 47,none)]) (.seq (sq [f 48 1 8,ln 49 8 48,bk 50 .eql 49 0] (.cond (t 50) (.ops [f 51 0 8,u (.lst 8 1 51 (k 0))]) .skip)) (.seq (.drawn [(m 52 6,none),(l 53 8 2 8,none),(m 4 52,none),(ls 5 2 5 53,none)]) .ret))))))
def r73:List NRes:=[(.slot 4),(.var 5 5 (some 2))]
theorem c73:IsN Tryz.prog 8 2 n73 r73:=isq [(2,2),(5,5),(8,8),(10,2),(17,2),(31,2),(39,2),(44,2),(48,8),(51,8)] Tryz.func8
def n1124:Zaj:=(sq [o 2 (.mov (.const s0))] (sq [o 3 (.mov (.const s0))] (.seq (sq [mi 4 1] (.block 0 (.loop (.seq (sq [m 5 4,m 6 0,le 7 6,b 8 .lss 5 7] (.cond (t 8) .skip (.exit 0))) (.seq (.block 1 (.drawn [(m 11 3,none),(m 12 0,none),(m 13 4,none),(ia 14 1 12 13,none),(ld 15 14,none),(m 16 0,none),(m 17 4,none),(bk 18 .sub 17 1,none),(ia 19 1 16 18,none),(ld 20 19,none),(b 21 .sub 15 20,none),(o 22 (.buildS 3 1 [z0] [(0,(1,(t 21)))]),(some false)),(o 23 (.raw (.call (.mk (.builtin .append) #[(t 11),(t 22)] #[29,29])) 29),none),(m 3 23,none)])) (.ops [m 9 4,bk 10 .add 9 1,m 4 10])))))) (sq [m 24 3,m 2 24] .ret))))
def r1124:List NRes:=[(.slot 2)]
theorem c1124:IsN Tryz.prog 124 1 n1124 r1124:=isq [] Tryz.func124
def n1272:Zaj:=(sq [o 1 (.lbox 1 [1,5,6,10,11] (t 0)),mi 2 0] (.seq (sq [f 5 0 1,f 6 4 5,ln 7 1 6,le 8 7,bk 9 .gtr 8 4] (.cond (t 9) (sq [mi 2 2] .ret) .skip)) (.seq (sq [f 10 0 1,f 11 4 10,ln 12 1 11,le 13 12,mi 14 0] (.block 0 (.loop (sq [b 15 .lss 14 13] (.seq (.cond (t 15) .skip (.exit 0)) (.seq (.block 1 (sq [ia 16 4 12 14,lm 17 4 16,o 4 (.lzero 4 [4,20,26,32,34,38] [z0,z0,z0,z0]),ls 4 4 4 17] (.block 2 (sq [l 19 1 5 1,f 20 0 4,ln 21 4 20,c2 22 276 19 21,bk 23 .neq 22 0,m 24 23,gf 24 25 (.lld 1 (some 5) 1),gf 24 26 (.lfadr 1 4),gf 24 27 (.lld 4 none 26),gf 24 28 (.call 276 [(t 25),(t 27)]),gf 24 29 (.bin .neq (t 28) (k 0)),po 30 24 29,m 18 30] (.cond (t 18) (sq [mi 2 6] .ret) (sq [f 32 0 4,ln 33 4 32,f 34 1 4,ln 35 4 34,b 36 .geq 33 35,m 31 36] (.cond (t 31) (sq [mi 2 7] .ret) (sq [f 38 2 4,l 39 4 2 38,o 40 (.call 275 [(t 39),(.const (.int .i64 (Int.negSucc 958))),(k 959),(k 1919)]),o 41 (.not (t 40)),m 37 41] (.cond (t 37) (sq [mi 2 1] .ret) .skip))))))))) (.ops [bk 42 .add 14 1,m 14 42]))))))) (sq [mi 2 0] .ret))))
def r1272:List NRes:=[(.slot 2)]
theorem c1272:IsN Tryz.prog 272 1 n1272 r1272:=isq [(1,1),(4,4),(5,1),(6,1),(10,1),(11,1),(20,4),(26,4),(32,4),(34,4),(38,4)] Tryz.func272
def n1277:Zaj:=(sq [mi 4 0] (.seq (sq [m 6 0,le 7 6,mi 8 0] (.block 0 (.loop (sq [b 9 .lss 8 7] (.seq (.cond (t 9) .skip (.exit 0)) (.seq (.block 1 (sq [m 10 8,m 5 10] (sq [m 11 1,m 12 0,m 13 5,ia 14 2 12 13,lm 15 2 14,o 16 (.raw (.call (.mk (.value (t 11)) #[(t 15)] #[56])) 4)] (.cond (t 16) (sq [m 17 5,m 4 17] .ret) .skip)))) (.ops [bk 18 .add 8 1,m 8 18]))))))) (sq [o 4 (.mov (.const (.int .i64 (Int.negSucc 0))))] .ret)))
def r1277:List NRes:=[(.slot 4)]
theorem c1277:IsN Tryz.prog 277 2 n1277 r1277:=isq [] Tryz.func277
def n136:Zaj:=(sq [o 2 (.lbox 2 [2,5,8,10] (t 0)),mi 4 0] (.seq (.drawn [(f 5 0 2,none),(ln 6 2 5,none),(m 7 1,none),(f 8 1 2,none),(ln 9 2 8,none),(f 10 0 2,none),(ln 11 2 10,none),(b 12 .sub 9 11,none),(bk 13 .add 12 1,none),(o 14 (.pur (.binOp .rem 3 (t 7) (t 13) 3) 3),none),(b 15 .add 6 14,none),(m 4 15,none)]) .ret))
def r136:List NRes:=[(.slot 4)]
theorem c136:IsN Tryz.prog 50 2 n136 r136:=isq [(2,2),(5,2),(8,2),(10,2)] Tryz.func50
def n1055:Zaj:=(sq [o 2 (.lbox 2 [2] (t 0)),o 4 (.lzero 4 [4] [z0,z0,z0,s0,s0]),o 5 (.lzero 5 [5] [z0,z0,z0,z0,z0,z0,z0]),mi 6 0] (.seq (sq [l 10 2 5 2,c1 11 121 10,m 7 11] (sq [m 12 7,bk 13 .neq 12 0] (.cond (t 13) (sq [o 14 (.build [z0,z0,z0,s0,s0] []),o 15 (.build [z0,z0,z0,z0,z0,z0,z0] []),m 16 7,ls 4 5 4 14,ls 5 7 5 15,m 6 16] .ret) .skip))) (sq [l 17 2 5 2,o 18 (.build [z0,z0,z0,s0,s0] [(0,(5,(t 17)))]),o 8 (.lzero 8 [8] [z0,z0,z0,s0,s0]),ls 8 5 8 18] (.seq (sq [l 19 8 5 8,m 20 1,c2 21 122 19 20,m 9 21] (sq [m 22 9,bk 23 .neq 22 0] (.cond (t 23) (sq [o 24 (.build [z0,z0,z0,s0,s0] []),o 25 (.build [z0,z0,z0,z0,z0,z0,z0] []),m 26 9,ls 4 5 4 24,ls 5 7 5 25,m 6 26] .ret) .skip))) (.seq (.drawn [(l 27 8 5 8,none),(m 28 1,none),(c1 29 123 28,(some false)),(ls 4 5 4 27,none),(ls 5 7 5 29,none),(mi 6 0,none)]) .ret)))))
def r1055:List NRes:=[(.var 4 4 (some 5)),(.var 5 5 (some 7)),(.slot 6)]
theorem c1055:IsN Tryz.prog 55 2 n1055 r1055:=isq [(2,2),(4,4),(5,5),(8,8)] Tryz.func55
def n1125:Zaj:=(sq [o 1 (.lbox 1 [1,3,4] (t 0)),mi 2 0] (sq [f 3 0 1,f 4 3 3,ln 5 1 4,le 6 5,m 2 6] .ret))
def r1125:List NRes:=[(.slot 2)]
theorem c1125:IsN Tryz.prog 125 1 n1125 r1125:=isq [(1,1),(3,1),(4,1)] Tryz.func125
def n1273:Zaj:=(sq [m0 4] (sq [m 5 0,m 6 1,c2 7 277 5 6,bk 8 .geq 7 0,m 4 8] .ret))
def r1273:List NRes:=[(.slot 4)]
theorem c1273:IsN Tryz.prog 273 2 n1273 r1273:=isq [] Tryz.func273
def n58:Zaj:=(sq [mi 4 0] (.seq (sq [m 5 1,bk 6 .geq 5 0,m 7 6,mt 7 8 1,mt 7 9 0,gt 7 10 (.len (t 9)),gt 7 11 (.bin .lss (t 8) (t 10)),pa 12 7 11] (.cond (t 12) (sq [m 13 0,m 14 1,ia 15 1 13 14,ld 16 15,o 17 (.pur (.convert 69 3 (t 16)) 3),m 4 17] .ret) .skip)) (sq [mi 4 0] .ret)))
def r58:List NRes:=[(.slot 4)]
theorem c58:IsN Tryz.prog 51 2 n58 r58:=isq [] Tryz.func51
def n1056:Zaj:=(sq [o 2 (.lbox 2 [2] (t 0)),o 3 (.raw (.box 125 (t 1)) 0),o 4 (.mov (.const s0))] (sq [l 5 2 5 2,c1 6 125 5,o 7 (.pur (.slice 125 (t 3) none (some (t 6)) none) 29),c1 8 124 7,c1 9 124 8,m 4 9] .ret))
def r1056:List NRes:=[(.slot 4)]
theorem c1056:IsN Tryz.prog 56 2 n1056 r1056:=isq [(2,2)] Tryz.func56
def n1121:Zaj:=(sq [o 1 (.lbox 1 [1] (t 0)),mi 2 0] (.seq (sq [o 6 (.ld (some 3) (.global 2)),mi 7 0] (.block 0 (.loop (sq [bk 8 .lss 7 3] (.seq (.cond (t 8) .skip (.exit 0)) (.seq (.block 1 (sq [o 9 (.raw (.index 260 (t 6) (t 7)) 259),m 4 9] (sq [m 10 4,l 11 1 5 1,o 12 (.build [z0,z0,z0,s0,s0] [(0,(5,(t 11)))]),o 13 (.raw (.call (.mk (.value (t 10)) #[(t 12)] #[123])) 34),m 5 13] (sq [m 14 5,bk 15 .neq 14 0] (.cond (t 15) (sq [m 16 5,m 2 16] .ret) .skip))))) (.ops [bk 17 .add 7 1,m 7 17]))))))) (sq [mi 2 0] .ret)))
def r1121:List NRes:=[(.slot 2)]
theorem c1121:IsN Tryz.prog 121 1 n1121 r1121:=isq [(1,1)] Tryz.func121
def n1274:Zaj:=(sq [o 1 (.lbox 1 [1] (t 0)),m0 2] (sq [l 3 1 2 1,o 4 (.call 275 [(t 3),(k 0),(k 959),(k 3)]),o 5 (.not (t 4)),m 2 5] .ret))
def r1274:List NRes:=[(.slot 2)]
theorem c1274:IsN Tryz.prog 274 1 n1274 r1274:=isq [(1,1)] Tryz.func274
def n1003:Zaj:=(sq [o 2 (.lbox 2 [2,22] (t 0)),m0 4] (.seq (sq [l 18 2 4 2,c1 19 6 18,o 20 (.not (t 19)),m 21 20,gf 21 22 (.lfadr 2 2),gf 21 23 (.lld 2 none 22),gf 21 24 (.len (t 23)),gf 21 25 (.bin .lss (t 24) (k 3)),po 26 21 25] (.cond (t 26) (sq [c0 27 7,m 4 27] .ret) .skip)) (sq [l 29 2 4 2,m 30 1,c2 31 8 29 30,m 28 31,x 32 28 0,x 33 28 1,o 6 (.lzero 6 [6,118,124,127,131,138] [z0,z0]),m 5 32,ls 6 2 6 33] (sq [l 35 2 4 2,m 36 5,l 37 6 2 6,c3 38 9 35 36 37,m 34 38,x 39 34 0,x 40 34 1,m 7 39,m 8 40] (.seq (sq [m 41 8,bk 42 .neq 41 0,m 43 42,mf 43 44 7,gf 43 45 (.len (t 44)),mf 43 46 5,gf 43 47 (.len (t 46)),gf 43 48 (.bin .neq (t 45) (t 47)),po 49 43 48] (.cond (t 49) (sq [m0 4] .ret) .skip)) (sq [m 50 5,le 51 50,o 52 (.raw (.makeSlice 37 (t 51) (t 51)) 37),o 53 (.build [z0,z0,z0,s0,s0] [(3,(1,(t 52)))]),o 9 (.lzero 9 [9] [z0,z0,z0,s0,s0]),ls 9 5 9 53] (sq [o 10 (.mov (.const s0))] (.seq (sq [mi 11 0] (.block 0 (.loop (.seq (sq [m 54 11,m 55 7,le 56 55,b 57 .lss 54 56] (.cond (t 57) .skip (.exit 0))) (.seq (.block 1 (.seq (sq [m 60 7,m 61 11,ia 62 1 60 61,ld 63 62,o 64 (.call 10 [(t 63),(.const (.int .i64 (Int.negSucc 198))),(k 199)]),o 65 (.not (t 64))] (.cond (t 65) (sq [m0 4] .ret) .skip)) (.ops [m 66 10,m 67 7,m 68 11,ia 69 1 67 68,ld 70 69,bk 71 .add 70 199,o 72 (.buildS 3 1 [z0] [(0,(1,(t 71)))]),o 73 (.raw (.call (.mk (.builtin .append) #[(t 66),(t 72)] #[29,29])) 29),m 10 73]))) (.ops [m 58 11,bk 59 .add 58 1,m 11 59])))))) (sq [l 75 9 5 9,m 76 5,c2 77 11 75 76,m 74 77,x 78 74 0,x 79 74 1,m 12 78,m 13 79] (sq [l 81 9 5 9,m 82 10,c2 83 11 81 82,m 80 83,x 84 80 0,x 85 80 1,m 14 84,m 15 85] (.seq (sq [m 86 13,bk 87 .neq 86 0,m 88 87,mf 88 89 15,gf 88 90 (.bin .neq (t 89) (k 0)),po 91 88 90,m 92 91,mf 92 93 12,gf 92 94 (.len (t 93)),mf 92 95 5,gf 92 96 (.len (t 95)),gf 92 97 (.bin .sub (t 96) (k 2)),gf 92 98 (.bin .neq (t 94) (t 97)),po 99 92 98,m 100 99,mf 100 101 14,gf 100 102 (.len (t 101)),mf 100 103 12,gf 100 104 (.len (t 103)),gf 100 105 (.bin .neq (t 102) (t 104)),po 106 100 105] (.cond (t 106) (sq [m0 4] .ret) .skip)) (.seq (sq [mi 16 0] (.block 2 (.loop (.seq (sq [m 107 16,m 108 12,le 109 108,b 110 .lss 107 109] (.cond (t 110) .skip (.exit 2))) (.seq (.block 3 (sq [m 113 12,m 114 16,ia 115 1 113 114,ld 116 115,o 117 (.raw (.unOp .neg 3 (t 116)) 3),m 17 117] (.seq (sq [f 118 0 6,ln 119 6 118,m 120 16,bk 121 .add 120 2,b 122 .eql 119 121] (.cond (t 122) (.ops [m 123 17,f 124 1 6,ln 125 6 124,b 126 .add 123 125,m 17 126]) .skip)) (.seq (sq [f 127 1 6,ln 128 6 127,bk 129 .neq 128 0,m 130 129,gt 130 131 (.lfadr 0 6),gt 130 132 (.lld 6 none 131),mt 130 133 16,gt 130 134 (.bin .add (t 133) (k 1)),gt 130 135 (.bin .eql (t 132) (t 134)),pa 136 130 135] (.cond (t 136) (.ops [m 137 17,f 138 1 6,ln 139 6 138,b 140 .sub 137 139,m 17 140]) .skip)) (sq [m 141 14,m 142 16,ia 143 1 141 142,ld 144 143,m 145 17,b 146 .neq 144 145] (.cond (t 146) (sq [m0 4] .ret) .skip)))))) (.ops [m 111 16,bk 112 .add 111 1,m 16 112])))))) (sq [c0 147 7,m 4 147] .ret)))))))))))))
def r1003:List NRes:=[(.slot 4)]
theorem c1003:IsN Tryz.prog 3 2 n1003 r1003:=isq [(2,2),(6,6),(9,9),(22,2),(118,6),(124,6),(127,6),(131,6),(138,6)] Tryz.func3
end Go.Proofs
end
section
open Go Go.LL
namespace Go.Proofs
def Waa (b:Bk)(l:List Int)(k:Slip):List Int:=(List.range l.length).map fun i=>b.op-l.getD i 0+if k.bf<=i then k.by_ else 0
theorem Wa1 {H:Hp}{r:Nat}{E:TypeId}{x:Int}:SlAt (H.ins r (.cells [vi x].toArray E)) (.slice (some ⟨r,0,none⟩) 1 1) [x]:=Za3 (l:=[x])
def spanI (b:Bk)(i:Nat):List Int:=(List.range ((ptAt b i).mh-(ptAt b i).ml+1).toNat).map fun (t:Nat)=>(ptAt b i).ml+t
def mkL (b:Bk):Nat->List (List Int)
 | 0=>[[]]
 | i+1=>(mkL b i).flatMap fun l=>(spanI b i).map fun n=>l++[n]
theorem n4of_get {l:List Int}{j:Nat}(hj:j<4):(n4of l).get j=l.getD j 0:=N4.of_get _ hj
theorem gaps_eq {b:Bk}(v:Zen b){l:List Int}(hl:l.length=b.pts.length)(k:Slip):Waa b l k=gapLs b ⟨n4of l,k.bf,k.by_⟩:=by
 have h4:=v.n
 have hlen:(gapLs b ⟨n4of l,k.bf,k.by_⟩).length=b.pts.length:=by
  rw[gapLs,List.length_take];show min _ 4=_;omega
 have hl2:(Waa b l k).length=b.pts.length:=by simp[Waa,hl]
 refine List.ext_getElem? fun i=>?_
 by_cases hi:i<b.pts.length
 ·have h44:i<4:=by omega
  rw[Waa,List.getElem?_map,List.getElem?_range (by omega)]
  rw[gapLs,List.getElem?_take_of_lt hi]
  have:(Zas b ⟨n4of l,k.bf,k.by_⟩).list[i]? = some ((Zas b ⟨n4of l,k.bf,k.by_⟩).get i):=by
   match i,h44 with
   | 0,_=>rfl
   | 1,_=>rfl
   | 2,_=>rfl
   | 3,_=>rfl
  rw[this,Zas,N4.of_get _ h44,if_pos hi,Zk4]
  show some _=some _
  rw[n4of_get h44]
 ·rw[List.getElem?_eq_none (by omega),List.getElem?_eq_none (by omega)]
theorem WaJ {α:Type}[Enc α]{H0 H:Hp}{E:TypeId}{v:Value}{l:List α}{b:Option Nat}(h:Own H0 H E v l b):∃ A c,v=.slice A l.length c:=by
 obtain⟨A,c,h1,_⟩:=h.sl
 exact⟨A,c,h1⟩
end Go.Proofs
end
section
open Go Go.LL
namespace Go.LL
theorem War {P:Prg}{f0:FuncId}{G:Frame->List Frame->Hp->Prop}{cs:List Frame}{fn:Func}{Post:Value->Hp->Prop}(hcl:Zdq G)
  (hG:∀ (fr:Frame) (H:Hp),fr.mode=.returning->fr.defers=[]->fr.fn=f0∧fr.kind=.normal->P.funcs[fr.fn]? = some fn->wpL P (results fn fr.tmps) (fun v _ H'=>Post v H') false H->Reach P G fr cs H) :
  ∀ (ds:List Deferred) (fr:Frame) (H:Hp),fr.mode=.returning->fr.defers=ds->fr.fn=f0∧fr.kind=.normal->P.funcs[fr.fn]? = some fn->Unw P fn fr.tmps Post ds H->Reach P G fr cs H:=by
 intro ds
 induction ds with
 | nil=>
  intro fr H hm hd hk hf h
  exact hG fr H hm hd hk hf h
 | cons d ds ih=>
  intro fr H hm hd hk hf h
  have back:∀ H',Unw P fn fr.tmps Post ds H'->Reach P G { fr with defers:=ds } cs H':=fun H' hu=>ih { fr with defers:=ds } H' hm rfl hk hf hu
  have hcol:(∃ r,d.target=.collected r)∨(Za4 d.target=true∧(wpL P (invoke d.target d.args) (fun n _ H'=>UnwN P (Unw P fn fr.tmps Post ds) n H') false H ∨
    (Vals P.toProgram (invoke d.target d.args)∧ShOp P (invoke d.target d.args) false false H fun _ H'=>Unw P fn fr.tmps Post ds H'))):=by
   simp only[Unw]at h
   split at h
   ·exact .inl ⟨_,‹_›⟩
   ·exact .inr h
  rcases hcol with ⟨r,hr⟩ | hcol
  ·simp only[Unw,hr]at h
   obtain⟨hst,h1,h2⟩:=h
   refine .sem (s:=Instr.takeDeferred r) (Q:=fun v _ H'=>v=[]∧H'=H.ins r (.deferred none)) ?_ ?_
   ·simp only[Instr.takeDeferred,Zaa,getObj,setObj]
    exact⟨_,_,⟨hst,h1⟩,rfl,rfl,_,⟨hst,h1⟩,rfl,rfl,rfl,rfl,rfl⟩
   ·rintro v H0 ⟨rfl,_⟩
    refine⟨{ fr with defers:=ds },cs,fun main w w' es e1=>⟨seen P fr.fn es,?_,.inr rfl⟩,fun H' e3=>?_⟩
    ·rw[ZeY hm]
     obtain⟨tg,da⟩:=d
     simp only at hr
     subst hr
     unfold unwind
     rw[hd]
     simp only[e1,GStep.after,List.nil_append,Array.append_empty]
    ·rw[e3.2]
     exact back _ h2
  obtain⟨ht,h⟩:=hcol
  have hstep:∀ main w,stepG P main (gor fr cs) w=callDeferred P { fr with defers:=ds } cs none d w:=by
   intro main w
   rw[ZeY hm]
   exact ZjK hd ht
  rcases h with h | ⟨hv,h⟩
  case inr=>
   refine h G fr (fun _=>{ fr with defers:=ds }) cs hcl ⟨fun main cs w w' v es e1=>?_,.inl hv,.inl hv,fun h=>by simp at h,fun h=>by simp at h⟩ fun v H' hu=>back _ hu
   rw[ZeY hm,ZjK hd ht]
   exact(ZaT ht e1).2 (.inl ⟨v,rfl⟩)
  refine .sem h ?_
  intro n H0 h0
  cases n with
  | enter f args=>
   refine⟨_,_,fun main w w' es e1=>⟨seen P fr.fn es,?_,.inr rfl⟩,fun H' e3=>e3 G _ cs hcl (show okD { fr with defers:=ds } by unfold okD;rw[hm];trivial) fun v H'' hv=>back _ hv⟩
   rw[hstep]
   exact(ZaT ht e1).1 f args rfl
  | value v=>
   refine⟨{ fr with defers:=ds },cs,fun main w w' es e1=>⟨seen P fr.fn es,?_,.inr rfl⟩,fun H' e3=>back _ e3⟩
   rw[hstep]
   exact(ZaT ht e1).2 (.inl ⟨v,rfl⟩)
  | skip=>
   refine⟨{ fr with defers:=ds },cs,fun main w w' es e1=>⟨seen P fr.fn es,?_,.inr rfl⟩,fun H' e3=>back _ e3⟩
   rw[hstep]
   exact(ZaT ht e1).2 (.inr rfl)
  | _=>exact h0.elim
theorem TopG.closed (P:Program)(f:FuncId)(fn:Func)(t:Nat)(v:Value):Zdq (TopG P f fn t v):=fun _ _ _ _ _ h=>h
theorem WaW {P:Prg}{f:FuncId}{fn:Func}{k t:Nat}{n:Zaj}{rs:List NRes}{v0:Value}(h:IsN P f k n rs)(hfn:P.funcs[f]? = some fn)(hres:fn.results=#[.tmp t]){args:List Value}{H:Hp}(hk:args.length=k)
  (hw:n.m P (MFin P rs fun v _=>v=v0) (env0 args) H):Reach P (TopG P f fn t v0) (Frame.enter P f args.toArray .normal) [] H:=by
 obtain⟨fn',L,h1,h2,h3,h4⟩:=h
 obtain rfl:fn'=fn:=Option.some.inj (h1.symm.trans hfn)
 rw[Bool.and_eq_true,Bool.and_eq_true,decide_eq_true_eq]at h4
 obtain⟨body,hb,hn⟩:=Option.bind_eq_some_iff.1 h2
 subst hk
 have hwn:NFn n rs P args (fun v _=>v=v0) H:=by
  unfold NFn
  refine Zaj.m_w ?_ hw
  intro e σ H h
  cases e<;>exact h
 obtain⟨⟨hl,hm⟩,hnr⟩:=h4
 have hrel:Rel P L fn'.ntmps (env0 args) H ⟨args.toArray++Array.replicate (fn'.ntmps-args.toArray.size) undef,[]⟩ H:=by
  refine⟨by simp;omega,rfl,fun _=>0,.nil,?_,?_,?_,?_,?_,.nil _ _⟩
  ·exact(Hp.join_nil H).symm
  ·exact Hp.comp_nil H
  ·intro d cs h;simp[env0]at h
  ·intro d d' cs cs' h;simp[env0]at h
  ·intro t v ht
   simp only[env0]at ht
   have hlt:t<args.length:=by
    rcases Nat.lt_or_ge t args.length with h | h
    ·exact h
    ·simp[List.getElem?_eq_none h]at ht
   have hno:L.lookup t=none:=by
    cases hh:L.lookup t with
    | none=>rfl
    | some d=>
     obtain⟨l1,l2,rfl,_⟩:=List.lookup_eq_some_iff.1 hh
     have:=List.all_eq_true.1 hl (t,d) (by simp)
     simp at this
     omega
   unfold RelV
   rw[hno]
   simp[Array.getElem?_append,hlt]
   rw[List.getElem?_eq_getElem hlt]at ht
   simpa using ht
 have htri:Tri P ⟨true,fn'.norace⟩ body (fun e a H=>match e with | .exit _=>False | _=>Unw P fn' a.tmps (fun v H'=>∃ H1 J:Hp,H'=H1.join J∧H1.Comp J∧v=v0) a.defers H) ⟨args.toArray++Array.replicate (fn'.ntmps-args.toArray.size) undef,[]⟩ H:=by
  refine(ZaK (rd:=⟨true,fn'.norace⟩) (fun h=>by rw[h]at hnr;simpa using hnr) hn hwn hrel).mono ?_
  rintro e ⟨at_,ad⟩ Ha ⟨σ,H',r,hq⟩
  cases e with
  | normal=>exact ZjL h3 _ _ _ _ r hq
  | ret=>exact ZjL h3 _ _ _ _ r hq
  | exit id=>exact hq.elim
 have he:Frame.enter P f args.toArray .normal=on (Frame.enter P f args.toArray .normal) ⟨args.toArray++Array.replicate (fn'.ntmps-args.toArray.size) undef,[]⟩ [.code body]:=by
  simp[Frame.enter,on,hfn,hb]
 rw[he]
 have hr:(Frame.enter P f args.toArray .normal).roundOf=none:=rfl
 have last:∀ (fr:Frame) (H:Hp),fr.mode=.returning->fr.defers=[]->fr.fn=f∧fr.kind=.normal->P.funcs[fr.fn]? = some fn'->wpL P (results fn' fr.tmps) (fun v _ H'=>(fun v H'=>∃ H1 J:Hp,H'=H1.join J∧H1.Comp J∧v=v0) v H') false H->Reach P (TopG P f fn' t v0) fr [] H:=by
  intro fr H a1 a2 ak a3 a4
  rw[Zif hres,Zac]at a4
  obtain⟨_,_,_,_,hv⟩:=a4
  exact .stop ⟨rfl,a1,a2,ak,a3,hres,hv⟩
 refine htri (TopG P f fn' t v0) _ [] [] (TopG.closed _ _ _ _ _) ⟨by simp[Frame.enter],fun _=>hr,fun h=>by simp only[norace,Frame.enter,hfn,Option.any_some];exact h⟩ ?_
 intro e a H' hq
 cases e with
 | normal=>
  refine .pure (fr':={ on (Frame.enter P f args.toArray .normal) a []with mode:=.returning }) (cs':=[]) (fun main w=>exec_end hr) ?_
  exact War (TopG.closed _ _ _ _ _) last _ _ _ rfl rfl ⟨rfl,rfl⟩ hfn hq
 | ret=>
  intro k'
  refine .pure (fr':={ on (Frame.enter P f args.toArray .normal) a (.code .ret :: k') with mode:=.returning }) (cs':=[]) (fun main w=>exec_ret hr) ?_
  exact War (TopG.closed _ _ _ _ _) last _ _ _ rfl rfl ⟨rfl,rfl⟩ hfn hq
 | exit id=>exact hq.elim
open Go.Conc (Knows Deaf touchAt QuitsD crowd woken Leavers Past)
end Go.LL
end
section
open Go Go.LL Go.Conc Go.ConcM
namespace Go.Proofs
theorem gChecks:Tryz.prog.globalNamed "ribband/spile.checks" = some 1:=by kernel_rfl
theorem gBatten:Tryz.prog.globalNamed "ribband/batten.checks" = some 2:=by kernel_rfl
end Go.Proofs
end
section
open Go Go.LL Go.Conc Go.ConcM
namespace Go.Proofs
open YthmnpenamnoniaaGreatDoor
theorem tChecks:(Tryz.prog.globals[1]?).map (·.type)=some 234:=by kernel_rfl
theorem tBatten:(Tryz.prog.globals[2]?).map (·.type)=some 260:=by kernel_rfl
def laidB:List (String×DataW Unit):=[("ribband/batten.checks",Rows.laid_ribband_batten_checks),("ribband/spile.checks",Rows.laid_ribband_spile_checks)]
theorem doorMetB (os:Os)(args:Array Value):laidMetH Tryz.prog laidB ((World.doorLaid Tryz.prog 600 os).forCall (fun _ _=>0) ⟨#[],args,[]⟩).memory:=
 laidMetH_of_parts3 (fuel:=8) (laidMet_of_run' 8 (by kernel_rfl) (by kernel_rfl)) (by kernel_rfl) (by kernel_rfl)
end Go.Proofs
end
section
open Go Go.LL Go.Conc Go.ConcM
namespace Go.Proofs
theorem WaY {G:Prop} (h:G:=by
  subst hcs'
  have h0:=World.var?_cell hg hv
  obtain⟨_,o,ho,_⟩:=ZdR (h0 0)
  refine⟨rfl,o,false,by rw[ZlS];rw[ho];rfl,fun j hj=>?_⟩
  match j,hj with
  | 0,_=>obtain⟨_,o',ho',hc⟩:=ZdR (h0 0);rw[ho]at ho';obtain rfl:=Option.some.inj ho';exact hc
  | 1,_=>obtain⟨_,o',ho',hc⟩:=ZdR (h0 1);rw[ho]at ho';obtain rfl:=Option.some.inj ho';exact hc
  | 2,_=>obtain⟨_,o',ho',hc⟩:=ZdR (h0 2);rw[ho]at ho';obtain rfl:=Option.some.inj ho';exact hc):G:=h
open YthmnpenamnoniaaGreatDoor
section
variable  {H:Type}{enc:TypeId×Value->H}{W:World}{base:Nat}{sp:Nat->Bool}{held:Bool}{fuel:Nat}{cs:List Value}{y:DataW H×List MemPlace}
end
theorem Wa8:Tryz.prog.cellsOf 234=3:=by kernel_rfl
theorem Wa9:Tryz.prog.cellsOf 233=1:=by kernel_rfl
theorem Wa6:Tryz.prog.cellsOf 260=3:=by kernel_rfl
theorem Wa7:Tryz.prog.cellsOf 259=1:=by kernel_rfl
def WaS (H:Hp):Prop:=CellsAt H ⟨2,0,none⟩ [vf 270,vf 271,vf 272]
set_option maxRecDepth 100000 in
theorem Wa3 {W:World}{L:List (String×DataW Unit)}(hm:("ribband/spile.checks",Rows.laid_ribband_spile_checks)∈L)(h:laidMetH Tryz.prog L W):Zbh (roW W):=by
 obtain⟨g,t,cs,fuel,p,hg,ht,hv,hd⟩:=h.funcs hm
 obtain rfl:=Option.some.inj (gChecks.symm.trans hg)
 obtain rfl:=Option.some.inj (tChecks.symm.trans ht)
 obtain⟨xs,n,rfl,hx,hl,hn,hE⟩:=DataW.trod_array Tryz.underlying234 hd
 rw[Wa8]at hl
 have e0:=hE 0 (by decide)
 have e1:=hE 1 (by decide)
 have e2:=hE 2 (by decide)
 rw[Wa9]at e0 e1 e2
 obtain⟨x0,x1,x2,rfl⟩:∃ a b c,xs=[a,b,c]:=by
  match xs,hn with
  | [a,b,c],_=>exact⟨a,b,c,rfl⟩
 obtain⟨c0,c1,c2,hcs⟩:∃ a b c,cs.toList=[a,b,c]:=by
  match h:cs.toList,hl with
  | [a,b,c],_=>exact⟨a,b,c,rfl⟩
 rw[hcs]at e0 e1 e2
 have hx1:DataW.agg [.held [40,114,105,98,98,97,110,100,47,115,112,105,108,101,46,98,111,111,107,41,46,99,111,109,112,97,115,115],.held [40,114,105,98,98,97,110,100,47,115,112,105,108,101,46,98,111,111,107,41,46,112,111,105,110,116,115],.held [40,114,105,98,98,97,110,100,47,115,112,105,108,101,46,98,111,111,107,41,46,99,104,101,99,107,101,100]]=DataW.agg [x0.1,x1.1,x2.1]:=(Prod.mk.inj hx).1
 simp only[DataW.agg.injEq,List.cons.injEq,and_true]at hx1
 obtain⟨k0,k1,k2⟩:=hx1
 obtain⟨y0,z0⟩:=x0
 obtain⟨y1,z1⟩:=x1
 obtain⟨y2,z2⟩:=x2
 dsimp only at k0 k1 k2
 subst k0 k1 k2
 obtain rfl:=Go.func_of_trod (f0:=267) Tryz.underlying233 (by kernel_rfl) e0
 obtain rfl:=Go.func_of_trod (f0:=268) Tryz.underlying233 (by kernel_rfl) e1
 obtain rfl:=Go.func_of_trod (f0:=269) Tryz.underlying233 (by kernel_rfl) e2
 have hcs':cs=#[vf 267,vf 268,vf 269]:=by rw[<-Array.toArray_toList (xs:=cs),hcs]
 exact WaY
set_option maxRecDepth 100000 in
theorem WaQ {W:World}{L:List (String×DataW Unit)}(hm:("ribband/batten.checks",Rows.laid_ribband_batten_checks)∈L)(h:laidMetH Tryz.prog L W):WaS (roW W):=by
 obtain⟨g,t,cs,fuel,p,hg,ht,hv,hd⟩:=h.funcs hm
 obtain rfl:=Option.some.inj (gBatten.symm.trans hg)
 obtain rfl:=Option.some.inj (tBatten.symm.trans ht)
 obtain⟨xs,n,rfl,hx,hl,hn,hE⟩:=DataW.trod_array Tryz.underlying260 hd
 rw[Wa6]at hl
 have e0:=hE 0 (by decide)
 have e1:=hE 1 (by decide)
 have e2:=hE 2 (by decide)
 rw[Wa7]at e0 e1 e2
 obtain⟨x0,x1,x2,rfl⟩:∃ a b c,xs=[a,b,c]:=by
  match xs,hn with
  | [a,b,c],_=>exact⟨a,b,c,rfl⟩
 obtain⟨c0,c1,c2,hcs⟩:∃ a b c,cs.toList=[a,b,c]:=by
  match h:cs.toList,hl with
  | [a,b,c],_=>exact⟨a,b,c,rfl⟩
 rw[hcs]at e0 e1 e2
 have hx1:DataW.agg [.held [40,114,105,98,98,97,110,100,47,98,97,116,116,101,110,46,98,111,111,107,41,46,115,116,105,102,102,110,101,115,115],.held [40,114,105,98,98,97,110,100,47,98,97,116,116,101,110,46,98,111,111,107,41,46,109,97,114,107,115],.held [40,114,105,98,98,97,110,100,47,98,97,116,116,101,110,46,98,111,111,107,41,46,114,117,108,101,115]]=DataW.agg [x0.1,x1.1,x2.1]:=(Prod.mk.inj hx).1
 simp only[DataW.agg.injEq,List.cons.injEq,and_true]at hx1
 obtain⟨k0,k1,k2⟩:=hx1
 obtain⟨y0,z0⟩:=x0
 obtain⟨y1,z1⟩:=x1
 obtain⟨y2,z2⟩:=x2
 dsimp only at k0 k1 k2
 subst k0 k1 k2
 obtain rfl:=Go.func_of_trod (f0:=270) Tryz.underlying259 (by kernel_rfl) e0
 obtain rfl:=Go.func_of_trod (f0:=271) Tryz.underlying259 (by kernel_rfl) e1
 obtain rfl:=Go.func_of_trod (f0:=272) Tryz.underlying259 (by kernel_rfl) e2
 have hcs':cs=#[vf 270,vf 271,vf 272]:=by rw[<-Array.toArray_toList (xs:=cs),hcs]
 exact WaY
end Go.Proofs
end
section
open Go Go.LL
namespace Go.Proofs
def Wab (l:List U16)(i:Int):Int:=if h:0<=i∧i.toNat<l.length then l[i.toNat].n else 0
theorem Wac (l:List U16)(i:Int):0<=Wab l i∧Wab l i<65536:=by
 unfold Wab
 split
 ·exact⟨l[i.toNat].lo,l[i.toNat].hi⟩
 ·omega
section
variable  {P:Prg}[Tz P][Loud P]{H:Hp}
set_option maxHeartbeats 4000000
set_option maxRecDepth 20000
theorem Wao {lv:Value}{l:List U16}{i:Int}(hl:SlAt H lv l):LL.Zag P 51 #[lv,vi i] H fun v H'=>H=H'∧v=vi (Wab l i):=by
 have hs:=Loud.loud (P:=P)
 have hl0:=hl
 obtain⟨A,c,rfl,hA⟩:=hl
 refine IsN.m (isn c58) (args:=[_,vi i]) rfl ?_
 unfold n58
 refine wkT ?_
 refine wiT (fun h1=>?_) (fun h1=>?_)
 ·refine wkT ?_
  refine wiT (fun h2=>?_) (fun h2=>?_)
  ·refine wkT ?_
   obtain⟨k,rfl⟩:=Int.eq_ofNat_of_zero_le h1
   have hk:k<l.length:=by omega
   refine ZaE hl0 rfl rfl rfl hk fun a ha=>?_
   refine wkT ?_
   refine Zaf (hs _) rfl ha ?_
   refine wkT ?_
   refine Zch (und Tryz.underlying69) (und Tryz.underlying3) rfl ?_
   refine wkT ?_
   have hv:Wab l (k:Int)=l[k].n:=by simp[Wab,hk]
   rw[hv]
   refine⟨rfl,?_⟩
   have:=l[k].lo
   have:=l[k].hi
   rw[ZbZ ⟨by omega,by omega⟩]
   rfl
  ·refine wkT ?_
   refine⟨rfl,?_⟩
   rw[Wab,dif_neg (by omega)]
   rfl
 ·refine wkT ?_
  refine⟨rfl,?_⟩
  rw[Wab,dif_neg (by omega)]
  rfl
end
end Go.Proofs
end
section
open Go Go.LL Go.Conc Go.ConcM
namespace Go.Proofs
open YthmnpenamnoniaaGreatDoor Go.ChangeShapes Go.WideShapes
section
set_option maxRecDepth 100000
variable  {H:Type}{enc:TypeId×Value->H}{W:World}{base:Nat}{sp:Nat->Bool}{held:Bool}{fuel:Nat}{cs:List Value}{y:DataW H×List MemPlace}{r:Reach}{b0:Nat}{v:Value}{d:DataW H}{ps:List MemPlace}
theorem u16_trod (h:DataW.trod enc Tryz.prog W base sp held fuel 69 cs=some y):∃ u:U16,cs=Enc.enc u:=by
 obtain⟨n,rfl,_,hw⟩:=DataW.trod_int Tryz.underlying69 h
 simp only[Lit.wf,Bool.and_eq_true,decide_eq_true_eq]at hw
 have h1:IntKind.u16.min=0:=rfl
 have h2:IntKind.u16.max=65535:=rfl
 exact⟨⟨n,by omega,by omega⟩,rfl⟩
theorem cells168:Tryz.prog.cellsOf 69=1:=by kernel_rfl
theorem under72:Tryz.prog.underlying 26=some (.slice 69):=by kernel_rfl
theorem open_sl {α:Type}[Enc α]{t e:TypeId}(ht:Tryz.prog.underlying t=some (.slice e))(hc:Tryz.prog.cellsOf e=Enc.sz α)(hpos:0<Enc.sz α)
  (hel:∀ {n:Nat} {cs:List Value} {y:DataW H×List MemPlace},DataW.trod enc Tryz.prog W base sp held n e cs=some y->∃ x:α,cs=Enc.enc x)
  (hval:Value.okWide Tryz.prog W r b0 t v) (hd:DataW.Trod enc Tryz.prog W base sp held t v d ps):∃ l:List α,SlAt (roW W) v l:=by
 obtain⟨fuel,hf⟩:=hd
 obtain⟨a,len,cap,rfl⟩:=okWide_slice ht hval
 obtain⟨v,hv,l,hl⟩:=ZlM ht hc hpos hel hf
 have:Value.slice a len cap=v:=by simpa[Value.cells]using hv
 exact⟨l,this ▸ hl⟩
theorem WaT (hval:Value.okWide Tryz.prog W r b0 26 v)(hd:DataW.Trod enc Tryz.prog W base sp held 26 v d ps):∃ l:List U16,SlAt (roW W) v l:=
 open_sl under72 cells168 (by decide) u16_trod hval hd
end
end Go.Proofs
end
