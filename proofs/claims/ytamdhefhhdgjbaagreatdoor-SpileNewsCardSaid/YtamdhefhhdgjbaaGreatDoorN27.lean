import Derived.Test.YtamdhefhhdgjbaaGreatDoorN22
import Derived.Test.YtamdhefhhdgjbaaGreatDoorN23
import Derived.Test.YtamdhefhhdgjbaaGreatDoorN24
import Derived.Test.YtamdhefhhdgjbaaGreatDoorN25
import Derived.Test.YtamdhefhhdgjbaaGreatDoorN26
set_option linter.all false
section
open Go Go.LL Go.Z
namespace Go.Proofs
def n21:Zaj:=(sq [o 1 (.lbox 1 [1] (t 0)),mi 2 0,mi 3 0] (sq [l 7 1 4 1,o 8 (.call 89 [(t 7),(.func 90)]),m 6 8,x 9 6 0,x 10 6 1,o 4 (.lzero 4 [4] [z0,z0,s0,s0,s0]),ls 4 5 4 9,m 5 10] (.seq (sq [m 11 5,bk 12 .neq 11 0] (.cond (t 12) (sq [m 13 5,mi 2 0,m 3 13] .ret) .skip)) (sq [l 14 4 5 4,o 15 (.call 91 [(t 14),(.func 92)]),m 2 15,mi 3 0] .ret))))
def r21:List NRes:=[(.slot 2),(.slot 3)]
theorem c21:IsN Tryz.prog 21 1 n21 r21:=isq [(1,1),(4,4)] Tryz.func21
def n26:Zaj:=(sq [o 1 (.raw (.box 25 (t 0)) 0),o 2 (.mov (.const s0)),mi 3 0] (sq [lm 9 4 1,o 10 (.call 89 [(t 9),(.func 90)]),m 8 10,x 11 8 0,x 12 8 1,o 4 (.raw (.alloc 112) 0),st 112 4 11 0,m 5 12] (.seq (sq [m 13 5,bk 14 .neq 13 0] (.cond (t 14) (sq [m 15 5,o 2 (.mov (.const s0)),m 3 15] .ret) .skip)) (sq [o 6 (.raw (.alloc 38) 0)] (.seq (sq [o 16 (.fadr 0 (t 4)),lm 17 4 16,o 18 (.raw (.makeFunc (.func 95) #[(t 17)] #[]) 126)] (.block 0 (.rfun (t 18) [19] (.ops [o 7 (.raw (.alloc 70) 0),st 70 7 19 0]) (.block 1 (sq [o 20 (.fadr 4 (t 4)),ld 21 20,o 22 (.raw (.makeFunc (.func 97) #[] #[(t 7)]) 117),c2 23 96 21 22] (.cond (t 23) (.ops [ld 24 6,lm 25 2 7,o 26 (.buildS 70 1 [z0,z0] [(0,(2,(t 25)))]),o 27 (.raw (.call (.mk (.builtin .append) #[(t 24),(t 26)] #[38,38])) 38),st 38 6 27 0]) .skip)))))) (sq [ld 28 6,m 2 28,mi 3 0] .ret))))))
def r26:List NRes:=[(.slot 2),(.slot 3)]
theorem c26:IsN Tryz.prog 26 1 n26 r26:=isq [] Tryz.func26
def n31:Zaj:=(sq [o 1 (.lbox 1 [1] (t 0)),mi 2 0,mi 3 0] (sq [l 7 1 4 1,o 8 (.call 89 [(t 7),(.func 90)]),m 6 8,x 9 6 0,x 10 6 1,o 4 (.lzero 4 [4,15] [z0,z0,s0,s0,s0]),ls 4 5 4 9,m 5 10] (.seq (sq [m 11 5,bk 12 .neq 11 0] (.cond (t 12) (sq [m 13 5,mi 2 0,m 3 13] .ret) .skip)) (sq [l 14 4 5 4,f 15 0 4,l 16 4 4 15,o 17 (.raw (.makeFunc (.func 103) #[(t 16)] #[]) 117),c2 18 91 14 17,m 2 18,mi 3 0] .ret))))
def r31:List NRes:=[(.slot 2),(.slot 3)]
theorem c31:IsN Tryz.prog 31 1 n31 r31:=isq [(1,1),(4,4),(15,4)] Tryz.func31
def n41:Zaj:=(sq [o 2 (.lbox 2 [2,13,19] (t 0)),o 3 (.lbox 3 [3] (t 1)),o 4 (.lzero 4 [4] [z0,z0,s0,s0]),mi 5 0] (.seq (sq [l 7 2 4 2,c1 8 78 7,m 6 8] (sq [m 9 6,bk 10 .neq 9 0] (.cond (t 10) (sq [o 11 (.build [z0,z0,s0,s0] []),m 12 6,ls 4 4 4 11,m 5 12] .ret) .skip))) (.seq (.drawn [(f 13 3 2,none),(ln 14 2 13,none),(l 16 3 3 3,none),(u (.build [z0,z0,z0] [(0,(3,(t 16)))]),none),(c1 15 125 14,(some false)),(o 17 (.buildS 51 1 [z0,z0,z0] [(0,(3,(t 16)))]),(some false)),(o 18 (.raw (.call (.mk (.builtin .append) #[(t 15),(t 17)] #[23,23])) 23),none),(f 19 3 2,none),(ls 2 1 19 18,none)]) (sq [l 20 2 4 2,c1 21 126 20,x 22 21 0,x 23 21 1,ls 4 4 4 22,m 5 23] .ret))))
def r41:List NRes:=[(.var 4 4 (some 4)),(.slot 5)]
theorem c41:IsN Tryz.prog 41 2 n41 r41:=isq [(2,2),(3,3),(4,4),(13,2),(19,2)] Tryz.func41
def n46:Zaj:=(sq [o 2 (.lbox 2 [2,14,20] (t 0)),o 4 (.lzero 4 [4] [z0,z0,s0,s0]),mi 5 0] (.seq (sq [l 7 2 4 2,c1 8 78 7,m 6 8] (sq [m 9 6,bk 10 .neq 9 0] (.cond (t 10) (sq [o 11 (.build [z0,z0,s0,s0] []),m 12 6,ls 4 4 4 11,m 5 12] .ret) .skip))) (.seq (sq [m 13 1,f 14 1 2,ln 15 2 14,o 16 (.call 112 [(t 13),(k 0),(t 15)]),o 17 (.not (t 16))] (.cond (t 17) (sq [o 18 (.build [z0,z0,s0,s0] []),ls 4 4 4 18,mi 5 1] .ret) .skip)) (sq [m 19 1,f 20 1 2,ls 2 1 20 19] (sq [l 21 2 4 2,c1 22 126 21,x 23 22 0,x 24 22 1,ls 4 4 4 23,m 5 24] .ret)))))
def r46:List NRes:=[(.var 4 4 (some 4)),(.slot 5)]
theorem c46:IsN Tryz.prog 46 2 n46 r46:=isq [(2,2),(4,4),(14,2),(20,2)] Tryz.func46
def n51:Zaj:=(sq [o 2 (.lbox 2 [2,8] (t 0)),o 3 (.lbox 3 [3] (t 1)),o 4 (.lzero 4 [4] [z0,z0,s0,s0])] (sq [l 6 2 4 2,o 5 (.lzero 5 [5,14] [z0,z0,s0,s0]),ls 5 4 5 6] (.seq (.drawn [(f 8 3 2,none),(ln 9 2 8,none),(l 11 3 3 3,none),(u (.build [z0,z0,z0] [(0,(3,(t 11)))]),none),(o 7 (.raw (.buildSlice 23 0 #[]) 23),(some false)),(u (.build [z0,z0,z0] [(0,(3,(t 11)))]),none),(o 10 (.raw (.call (.mk (.builtin .append) #[(t 7),(t 9)] #[23,23])) 23),(some false)),(o 12 (.buildS 51 1 [z0,z0,z0] [(0,(3,(t 11)))]),(some false)),(o 13 (.raw (.call (.mk (.builtin .append) #[(t 10),(t 12)] #[23,23])) 23),none),(f 14 3 5,none),(ls 5 1 14 13,none)]) (sq [l 15 5 4 5,ls 4 4 4 15] .ret))))
def r51:List NRes:=[(.var 4 4 (some 4))]
theorem c51:IsN Tryz.prog 51 2 n51 r51:=isq [(2,2),(3,3),(4,4),(5,5),(8,2),(14,5)] Tryz.func51
def n56:Zaj:=(sq [o 1 (.lbox 1 [1,7,13,17] (t 0)),o 2 (.mov (.const s0))] (sq [o 3 (.mov (.const s0))] (.seq (sq [mi 4 1] (.block 0 (.loop (.seq (sq [m 6 4,f 7 2 1,ln 8 1 7,le 9 8,b 10 .lss 6 9] (.cond (t 10) .skip (.exit 0))) (.seq (.block 1 (sq [f 13 1 1,ln 14 1 13,o 15 (.raw (.unOp .neg 3 (t 14)) 3),m 5 15] (.block 2 (.loop (.seq (sq [m 16 5,f 17 1 1,ln 18 1 17,b 19 .leq 16 18] (.cond (t 19) .skip (.exit 2))) (.seq (.block 3 (sq [m 22 5,bk 23 .neq 22 0] (.cond (t 23) (.ops [m 24 3,m 25 4,m 26 5,o 27 (.build [z0,z0] [(0,(1,(t 25))),(1,(1,(t 26)))]),o 28 (.buildS 70 1 [z0,z0] [(0,(2,(t 27)))]),o 29 (.raw (.call (.mk (.builtin .append) #[(t 24),(t 28)] #[38,38])) 38),m 3 29]) .skip))) (.ops [m 20 5,bk 21 .add 20 1,m 5 21]))))))) (.ops [m 11 4,bk 12 .add 11 1,m 4 12])))))) (sq [m 30 3,m 2 30] .ret))))
def r56:List NRes:=[(.slot 2)]
theorem c56:IsN Tryz.prog 56 1 n56 r56:=isq [(1,1),(7,1),(13,1),(17,1)] Tryz.func56
def n66:Zaj:=(sq [o 3 (.lbox 3 [3,10] (t 0)),o 5 (.lbox 5 [5] (t 2)),o 6 (.lzero 6 [6] [z0,z0,s0,s0])] (sq [l 8 3 4 3,o 7 (.lzero 7 [7,13,14] [z0,z0,s0,s0]),ls 7 4 7 8] (sq [o 9 (.raw (.buildSlice 22 0 #[]) 22),f 10 2 3,ln 11 3 10,o 12 (.raw (.call (.mk (.builtin .append) #[(t 9),(t 11)] #[22,22])) 22),f 13 2 7,ls 7 1 13 12] (sq [f 14 2 7,ln 15 7 14,m 16 1,l 17 5 2 5,ia 18 5 15 16,o 19 (.fadr 0 (t 18)),st 49 19 17 0] (sq [l 20 7 4 7,ls 6 4 6 20] .ret)))))
def r66:List NRes:=[(.var 6 6 (some 4))]
theorem c66:IsN Tryz.prog 66 3 n66 r66:=isq [(3,3),(5,5),(6,6),(7,7),(10,3),(13,7),(14,7)] Tryz.func66
def n71:Zaj:=(sq [m0 4] (sq [m 5 0,le 6 5,m 7 1,le 8 7,b 9 .lss 6 8,m 10 9,mf 10 11 0,gf 10 12 (.len (t 11)),mf 10 13 1,gf 10 14 (.len (t 13)),gf 10 15 (.bin .eql (t 12) (t 14)),mf 10 16 15,mt 16 17 0,mt 16 18 1,gt 16 19 (.call 135 [(t 17),(t 18)]),gf 10 20 (.pick (t 16) (t 19) k0),po 21 10 20,m 4 21] .ret))
def r71:List NRes:=[(.slot 4)]
theorem c71:IsN Tryz.prog 71 2 n71 r71:=isq [] Tryz.func71
def n76:Zaj:=(sq [o 2 (.mov (.const s0))] (sq [o 3 (.mov (.const s0))] (.seq (sq [mi 4 0] (.block 0 (.loop (.seq (sq [m 5 4,m 6 0,b 7 .lss 5 6] (.cond (t 7) .skip (.exit 0))) (.seq (.block 1 (.ops [m 10 3,m 11 4,o 12 (.buildS 3 1 [z0] [(0,(1,(t 11)))]),o 13 (.raw (.call (.mk (.builtin .append) #[(t 10),(t 12)] #[34,34])) 34),m 3 13])) (.ops [m 8 4,bk 9 .add 8 1,m 4 9])))))) (sq [m 14 3,m 2 14] .ret))))
def r76:List NRes:=[(.slot 2)]
theorem c76:IsN Tryz.prog 76 1 n76 r76:=isq [] Tryz.func76
def n86:Zaj:=(sq [m0 4] (sq [m 5 0,m 6 1,c2 7 25 5 6,m 4 7] .ret))
def r86:List NRes:=[(.slot 4)]
theorem c86:IsN Tryz.prog 86 2 n86 r86:=isq [] Tryz.func86
def n91:Zaj:=(sq [o 2 (.lbox 2 [2,8,25] (t 0)),mi 4 0] (sq [mi 5 0] (.seq (sq [f 8 4 2,ln 9 2 8,le 10 9,mi 11 0] (.block 0 (.loop (sq [b 12 .lss 11 10] (.seq (.cond (t 12) .skip (.exit 0)) (.seq (.block 1 (sq [ia 13 6 9 11,lm 14 6 13,o 7 (.lzero 7 [7] [z0,z0,z0,z0,z0,z0]),ls 7 6 7 14] (sq [m 15 1,l 16 7 6 7,o 17 (.raw (.call (.mk (.value (t 15)) #[(t 16)] #[121])) 4)] (.cond (t 17) (.ops [m 18 5,bk 19 .add 18 1,m 5 19]) .skip)))) (.ops [bk 20 .add 11 1,m 11 20]))))))) (.seq (sq [m 21 5] (.block 2 (sq [bk 23 .eql 21 0,m 22 23] (.cond (t 22) (sq [mi 4 2] .ret) (sq [f 25 4 2,ln 26 2 25,le 27 26,b 28 .eql 21 27,m 24 28] (.cond (t 24) (sq [mi 4 1] .ret) .skip)))))) (sq [mi 4 0] .ret)))))
def r91:List NRes:=[(.slot 4)]
theorem c91:IsN Tryz.prog 91 2 n91 r91:=isq [(2,2),(7,7),(8,2),(25,2)] Tryz.func91
def n96:Zaj:=(sq [m0 4] (sq [m 5 0,m 6 1,c2 7 147 5 6,bk 8 .geq 7 0,m 4 8] .ret))
def r96:List NRes:=[(.slot 4)]
theorem c96:IsN Tryz.prog 96 2 n96 r96:=isq [] Tryz.func96
def n101:Zaj:=(sq [m 3 0,le 4 3,m 2 4] (.ops [m 5 0,m 6 2,m 7 2,o 8 (.pur (.convert 3 188 (t 7)) 188),c1 9 149 8,o 10 (.call 148 [(t 5),(k 0),(t 6),(t 9)])]))
def r101:List NRes:=[]
theorem c101:IsN Tryz.prog 101 1 n101 r101:=isq [] Tryz.func101
def n106:Zaj:=(sq [mi 6 0] (.seq (sq [m 9 2,le 10 9,mi 11 0] (.block 0 (.loop (sq [b 12 .lss 11 10] (.seq (.cond (t 12) .skip (.exit 0)) (.seq (.block 1 (sq [ia 13 1 9 11,ld 14 13,m 8 14] (sq [m 15 0,m 16 8,m 17 1,o 18 (.raw (.call (.mk (.value (t 15)) #[(t 16),(t 17)] #[3,3])) 4)] (.cond (t 18) (.ops [m 19 8,m 1 19]) .skip)))) (.ops [bk 20 .add 11 1,m 11 20]))))))) (sq [m 21 1,m 6 21] .ret)))
def r106:List NRes:=[(.slot 6)]
theorem c106:IsN Tryz.prog 106 3 n106 r106:=isq [] Tryz.func106
def n116:Zaj:=(sq [o 4 (.lbox 4 [4] (t 1)),o 6 (.lzero 6 [6] [z0,z0])] (.seq (sq [m 9 2,le 10 9,mi 11 0] (.block 0 (.loop (sq [b 12 .lss 11 10] (.seq (.cond (t 12) .skip (.exit 0)) (.seq (.block 1 (sq [ia 13 2 9 11,lm 14 2 13,o 8 (.lzero 8 [8] [z0,z0]),ls 8 2 8 14] (sq [m 15 0,l 16 8 2 8,l 17 4 2 4,o 18 (.raw (.call (.mk (.value (t 15)) #[(t 16),(t 17)] #[153,153])) 4)] (.cond (t 18) (.ops [l 19 8 2 8,ls 4 2 4 19]) .skip)))) (.ops [bk 20 .add 11 1,m 11 20]))))))) (sq [l 21 4 2 4,ls 6 2 6 21] .ret)))
def r116:List NRes:=[(.var 6 6 (some 2))]
theorem c116:IsN Tryz.prog 116 3 n116 r116:=isq [(4,4),(6,6),(8,8)] Tryz.func116
def n121:Zaj:=(sq [o 6 (.mov (.const s0))] (.seq (sq [m 9 2,le 10 9,mi 11 0] (.block 0 (.loop (sq [b 12 .lss 11 10] (.seq (.cond (t 12) .skip (.exit 0)) (.seq (.block 1 (sq [ia 13 1 9 11,ld 14 13,m 8 14] (sq [m 15 0,m 16 8,m 17 1,o 18 (.raw (.call (.mk (.value (t 15)) #[(t 16),(t 17)] #[34,34])) 4)] (.cond (t 18) (.ops [m 19 8,m 1 19]) .skip)))) (.ops [bk 20 .add 11 1,m 11 20]))))))) (sq [m 21 1,m 6 21] .ret)))
def r121:List NRes:=[(.slot 6)]
theorem c121:IsN Tryz.prog 121 3 n121 r121:=isq [] Tryz.func121
def n126:Zaj:=(sq [o 1 (.lbox 1 [1,16,19,22,23] (t 0)),o 2 (.lzero 2 [2] [z0,z0,s0,s0]),mi 3 0] (.seq (sq [l 5 1 4 1,c1 6 78 5,m 4 6] (sq [m 7 4,bk 8 .neq 7 0] (.cond (t 8) (sq [o 9 (.build [z0,z0,s0,s0] []),m 10 4,ls 2 4 2 9,m 3 10] .ret) .skip))) (.seq (sq [l 11 1 4 1,o 12 (.build [z0,z0,s0,s0] [(0,(4,(t 11)))]),c1 13 119 12,o 14 (.not (t 13))] (.cond (t 14) (sq [o 15 (.build [z0,z0,s0,s0] []),ls 2 4 2 15,mi 3 9] .ret) .skip)) (.seq (.drawn [(f 16 2 1,none),(ln 17 1 16,none),(f 19 3 1,none),(ln 20 1 19,none),(c1 18 129 17,(some false)),(f 22 2 1,none),(c1 21 125 20,(some false)),(ls 1 1 22 18,none),(f 23 3 1,none),(ls 1 1 23 21,none)]) (sq [l 24 1 4 1,ls 2 4 2 24,mi 3 0] .ret)))))
def r126:List NRes:=[(.var 2 2 (some 4)),(.slot 3)]
theorem c126:IsN Tryz.prog 126 1 n126 r126:=isq [(1,1),(2,2),(16,1),(19,1),(22,1),(23,1)] Tryz.func126
def n131:Zaj:=(sq [o 4 (.lbox 4 [4,12,13] (t 0)),o 6 (.raw (.box 3 (t 2)) 0),o 7 (.raw (.box 3 (t 3)) 0),mi 8 0] (.seq (.block 0 (sq [m 10 1,le 11 10,f 12 0 4,f 13 2 12,ln 14 4 13,le 15 14,b 16 .neq 11 15,m 9 16] (.cond (t 9) (sq [mi 8 2] .ret) (sq [m 18 1,o 19 (.raw (.makeFunc (.func 173) #[] #[(t 6),(t 7)]) 128),c2 20 172 18 19,m 17 20] (.cond (t 17) (sq [mi 8 1] .ret) .skip))))) (sq [mi 8 0] .ret)))
def r131:List NRes:=[(.slot 8)]
theorem c131:IsN Tryz.prog 131 4 n131 r131:=isq [(4,4),(12,4),(13,4)] Tryz.func131
def n146:Zaj:=(sq [o 2 (.mov (.const s0))] (sq [m 3 0,o 4 (.call 178 [(.const s0),(t 3)]),m 2 4] .ret))
def r146:List NRes:=[(.slot 2)]
theorem c146:IsN Tryz.prog 146 1 n146 r146:=isq [] Tryz.func146
def n180:Zaj:=(sq [m 11 1,m 6 11] (sq [mi 7 0] (sq [m 12 2,m 13 1,b 14 .sub 12 13,m 8 14] (.seq (sq [m 15 8,bk 16 .sub 15 1,o 17 (.pur (.binOp .quo 3 (t 16) (k 2) 3) 3),m 9 17] (.block 0 (.loop (.seq (sq [m 18 9,bk 19 .geq 18 0] (.cond (t 19) .skip (.exit 0))) (.seq (.block 1 (.ops [m 22 0,m 23 9,m 24 8,m 25 6,o 26 (.call 202 [(t 22),(t 23),(t 24),(t 25)])])) (.ops [m 20 9,bk 21 .sub 20 1,m 9 21])))))) (sq [m 27 8,bk 28 .sub 27 1,m 10 28] (.block 2 (.loop (.seq (sq [m 29 10,bk 30 .geq 29 0] (.cond (t 30) .skip (.exit 2))) (.seq (.block 3 (.seq (.drawn [(m 33 0,none),(m 34 6,none),(m 35 0,none),(m 36 6,none),(m 37 10,none),(b 38 .add 36 37,none),(m 39 0,none),(m 40 6,none),(m 41 10,none),(b 42 .add 40 41,none),(ia 43 1 39 42,none),(ld 44 43,none),(m 45 0,none),(m 46 6,none),(ia 47 1 45 46,none),(ld 48 47,none),(ia 49 1 33 34,none),(st 3 49 44 0,(some false)),(ia 50 1 35 38,none),(st 3 50 48 0,none)]) (.ops [m 51 0,m 52 7,m 53 10,m 54 6,o 55 (.call 202 [(t 51),(t 52),(t 53),(t 54)])]))) (.ops [m 31 10,bk 32 .sub 31 1,m 10 32]))))))))))
def r180:List NRes:=[]
theorem c180:IsN Tryz.prog 180 3 n180 r180:=isq [] Tryz.func180
def n185:Zaj:=(sq [m0 4] (sq [m 5 0,c1 6 207 5,m 7 6,mt 7 8 1,gt 7 9 (.call 207 [(t 8)]),gt 7 10 (.not (t 9)),pa 11 7 10,m 12 11,mf 12 13 0,mf 12 14 1,gf 12 15 (.bin .lss (t 13) (t 14)),po 16 12 15,m 4 16] .ret))
def r185:List NRes:=[(.slot 4)]
theorem c185:IsN Tryz.prog 185 2 n185 r185:=isq [] Tryz.func185
def n199:Zaj:=(sq [mi 4 0] (sq [m 7 0,c1 8 207 7,m 5 8] (sq [m 9 1,c1 10 207 9,m 6 10] (.seq (sq [m 11 5] (.cond (t 11) (.seq (sq [m 12 6] (.cond (t 12) (sq [mi 4 0] .ret) .skip)) (sq [o 4 (.mov (.const (.int .i64 (Int.negSucc 0))))] .ret)) .skip)) (.seq (sq [m 13 6] (.cond (t 13) (sq [mi 4 1] .ret) .skip)) (.seq (sq [m 14 0,m 15 1,b 16 .lss 14 15] (.cond (t 16) (sq [o 4 (.mov (.const (.int .i64 (Int.negSucc 0))))] .ret) .skip)) (.seq (sq [m 17 0,m 18 1,b 19 .gtr 17 18] (.cond (t 19) (sq [mi 4 1] .ret) .skip)) (sq [mi 4 0] .ret))))))))
def r199:List NRes:=[(.slot 4)]
theorem c199:IsN Tryz.prog 199 2 n199 r199:=isq [] Tryz.func199
def n204:Zaj:=(sq [o 2 (.mov (.const (.int .u64 0)))] (.seq (.drawn [(m 3 0,none),(o 4 (.pur (.nilCheck (t 3)) 0),none),(ld 5 4,none),(m 6 0,none),(o 7 (.pur (.nilCheck (t 6)) 0),none),(ld 8 7,none),(o 9 (.pur (.binOp .shl 235 (t 8) (.const (.int .u64 13)) 188) 235),none),(o 10 (.pur (.binOp .xor 235 (t 5) (t 9) 235) 235),none),(o 11 (.pur (.nilCheck (t 3)) 0),none),(st 235 11 10 0,none)]) (.seq (.drawn [(m 12 0,none),(o 13 (.pur (.nilCheck (t 12)) 0),none),(ld 14 13,none),(m 15 0,none),(o 16 (.pur (.nilCheck (t 15)) 0),none),(ld 17 16,none),(o 18 (.pur (.binOp .shr 235 (t 17) (.const (.int .u64 7)) 188) 235),none),(o 19 (.pur (.binOp .xor 235 (t 14) (t 18) 235) 235),none),(o 20 (.pur (.nilCheck (t 12)) 0),none),(st 235 20 19 0,none)]) (.seq (.drawn [(m 21 0,none),(o 22 (.pur (.nilCheck (t 21)) 0),none),(ld 23 22,none),(m 24 0,none),(o 25 (.pur (.nilCheck (t 24)) 0),none),(ld 26 25,none),(o 27 (.pur (.binOp .shl 235 (t 26) (.const (.int .u64 17)) 188) 235),none),(o 28 (.pur (.binOp .xor 235 (t 23) (t 27) 235) 235),none),(o 29 (.pur (.nilCheck (t 21)) 0),none),(st 235 29 28 0,none)]) (sq [m 30 0,o 31 (.pur (.nilCheck (t 30)) 0),ld 32 31,m 2 32] .ret)))))
def r204:List NRes:=[(.slot 2)]
theorem c204:IsN Tryz.prog 204 1 n204 r204:=isq [] Tryz.func204
def n232:Zaj:=(sq [o 1 (.lbox 1 [1,3,4,9,10] (t 0)),mi 2 0] (.seq (sq [f 3 0 1,f 4 0 3,ln 5 1 4,o 6 (.call 112 [(t 5),(k 0),(k 99)]),o 7 (.not (t 6)),m 8 7,gf 8 9 (.lfadr 0 1),gf 8 10 (.lfadr 1 9),gf 8 11 (.lld 1 none 10),gf 8 12 (.call 112 [(t 11),(k 0),(k 3)]),gf 8 13 (.not (t 12)),po 14 8 13] (.cond (t 14) (sq [mi 2 1] .ret) .skip)) (sq [mi 2 0] .ret)))
def r232:List NRes:=[(.slot 2)]
theorem c232:IsN Tryz.prog 232 1 n232 r232:=isq [(1,1),(3,1),(4,1),(9,1),(10,1)] Tryz.func232
end Go.Proofs
end
section
open Go Go.LL
namespace Go.Proofs
section
variable  {P:Prg}[Tz P]{H:Hp}
set_option maxHeartbeats 400000
theorem ZbI (n lo hi:Int):LL.Zai P 112 #[vi n,vi lo,vi hi] H fun v H'=>H=H'∧v=vb (decide (lo<=n∧n<=hi)):=by
 refine IsN.m (isn c112) (args:=[vi n,vi lo,vi hi]) rfl ?_
 unfold n112
 refine wkT ?_
 refine wiT (fun h1=>?_) (fun h1=>?_)<;>refine wkT ?_<;>exact⟨rfl,by simp[Zbt,h1]⟩
theorem ZkX (n lo hi:Int):LL.Zai P 53 #[vi n,vi lo,vi hi] H fun v H'=>H=H'∧v=vb (decide (lo<=n∧n<=hi)):=by
 refine IsN.m (isn c53) (args:=[vi n,vi lo,vi hi]) rfl ?_
 unfold n53
 refine wkT ?_
 refine wiT (fun h1=>?_) (fun h1=>?_)<;>refine wkT ?_<;>exact⟨rfl,by simp[Zbt,h1]⟩
theorem Zmq (m n:Int):LL.Zai P 107 #[vi m,vi n] H fun v H'=>H=H'∧v=vb (decide (n<m)):=by
 refine IsN.m (isn c107) (args:=[vi m,vi n]) rfl ?_
 unfold n107
 refine wkT ?_
 exact⟨rfl,rfl⟩
theorem Zoc (m n:Int):LL.Zai P 108 #[vi m,vi n] H fun v H'=>H=H'∧v=vb (decide (m<n)):=by
 refine IsN.m (isn c108) (args:=[vi m,vi n]) rfl ?_
 unfold n108
 refine wkT ?_
 exact⟨rfl,rfl⟩
theorem ZfW (a b lo hi:Int)(hst:P.still H.gh=false):LL.Zai P 128 #[.agg #[vi a,vi b],vi lo,vi hi] H fun v H'=>H=H'∧v=vb (decide (lo<=a∧a<=b∧b<=hi)):=by
 refine IsN.m (isn c128) (args:=[.agg #[vi a,vi b],vi lo,vi hi]) rfl ?_
 unfold n128
 refine wkT ?_
 refine wiT (fun h1=>?_) (fun h1=>?_)<;>refine wkT ?_
 refine wiT (fun h2=>?_) (fun h2=>?_)<;>refine wkT ?_<;>exact⟨rfl,by simp[Zbt,h1,h2]⟩
 exact⟨rfl,by simp[Zbt,h1]⟩
theorem Zfi {bv:Value}{b:Bk}(hb:BkAt H bv b)(n:Int)(hn:b.pts.length<=1000000)(hst:P.still H.gh=false):LL.Zai P 99 #[bv,vi n] H fun v H'=>H=H'∧v=vb (decide (0<=n∧n<b.pts.length)):=by
 obtain⟨pv,cv,rfl,hp,hc⟩:=hb
 refine IsN.m (isn c99) (args:=[.agg #[vi b.op,vi b.sl,pv,cv],vi n]) rfl ?_
 unfold n99
 refine wkT ?_
 refine Zal hp rfl ?_
 refine wkT ?_
 refine Zab (vs:=[vi n,vi 0,vi (b.pts.length-1)]) rfl (ZbI _ _ _) ?_
 rintro v _ ⟨rfl,rfl⟩
 refine wkT ?_
 exact⟨rfl,congrArg vb (decide_eq_decide.2 (by omega))⟩
def Zbq (b:Bk):Int:=if (0<=b.op∧b.op<=99)∧(0<=b.sl∧b.sl<=3) then 0 else 1
theorem ZmA {bv:Value}{b:Bk}(hb:BkAt H bv b)(hst:P.still H.gh=false):LL.Zai P 232 #[bv] H fun v H'=>H=H'∧v=vi (Zbq b):=by
 obtain⟨pv,cv,rfl,hp,hc⟩:=hb
 refine IsN.m (isn c232) (args:=[.agg #[vi b.op,vi b.sl,pv,cv]]) rfl ?_
 unfold n232
 refine wkT ?_
 refine Zab (vs:=[vi b.op,vi 0,vi 99]) rfl (ZbI _ _ _) ?_
 rintro v _ ⟨rfl,rfl⟩
 refine wkT ?_
 refine wiT (fun h1=>?_) (fun h1=>?_)
 ·refine wkT ?_
  exact⟨rfl,by simp[Zbt,Zbq];omega⟩
 ·refine wkT ?_
  refine Zab (vs:=[vi b.sl,vi 0,vi 3]) rfl (ZbI _ _ _) ?_
  rintro v _ ⟨rfl,rfl⟩
  refine wkT ?_
  refine wiT (fun h2=>?_) (fun h2=>?_)
  ·refine wkT ?_
   exact⟨rfl,by simp[Zbt,Zbq];omega⟩
  ·refine wkT ?_
   exact⟨rfl,by simp[Zbt,Zbq];omega⟩
def okP (p:SPt):Bool:=decide (0<=p.ml∧p.ml<=p.mh∧p.mh<=99) && decide (p.mh-p.ml<3) && decide (0<=p.bl∧p.bl<=p.bh∧p.bh<=199) && decide (0<=p.w∧p.w<=199)
def Zbv (b:Bk):Int:=if ¬ (2<=b.pts.length∧b.pts.length<=4) then 2 else if b.pts.all okP then 0 else 1
theorem Zi2 {α:Type}{f:α->Bool}{l:List α}{j:Nat}(hj:j<l.length):(l.take (j+1)).all f=((l.take j).all f && f l[j]):=by
 rw[List.take_succ_eq_append_getElem hj,List.all_append];simp only[List.all_cons,List.all_nil,Bool.and_true]
theorem ZoU {α:Type}{f:α->Bool}{l:List α}{j:Nat}(hj:j<l.length)(h:f l[j]=false):l.all f=false:=by
 rw[List.all_eq_false];exact⟨l[j],List.getElem_mem hj,by simp[h]⟩
theorem ZnI {bv:Value}{b:Bk}(hb:BkAt H bv b)(hl:b.pts.length<=1000000)(hst:P.still H.gh=false):LL.Zai P 233 #[bv] H fun v H'=>H=H'∧v=vi (Zbv b):=by
 obtain⟨pv,cv,rfl,hp,hc⟩:=hb
 refine IsN.m (isn c233) (args:=[.agg #[vi b.op,vi b.sl,pv,cv]]) rfl ?_
 unfold n233
 refine wkT ?_
 refine Zal hp rfl ?_
 refine wkT ?_
 refine Zab (vs:=[vi b.pts.length,vi 2,vi 4]) rfl (ZbI _ _ _) ?_
 rintro v _ ⟨rfl,rfl⟩
 refine wkT ?_
 refine wiT (fun h1=>?_) (fun h1=>?_)
 ·refine wkT ?_
  exact⟨rfl,by simp[Zbt,Zbv];omega⟩
 ·refine wkT ?_
  refine Zal hp rfl ?_
  refine wkT ?_
  refine ZaP b.pts.length (fun j H'=>H=H'∧(b.pts.take j).all okP=true) (fun j=>[(13,pv),(14,vi b.pts.length),(15,vi j)]) (fun _=>[]) ⟨rfl,by simp⟩ ⟨rfl,rfl,rfl,trivial⟩ trivial ?_
  rintro j _ hj ⟨rfl,hall⟩
  refine wkT ?_
  refine wiT (fun h2=>?_) (fun h2=>?_)
  ·refine wkT ?_
   refine Zar hp rfl rfl rfl (i:=j) (by omega) fun a ha=>?_
   refine wkT ?_
   refine Zam hst rfl ha rfl ?_
   refine wkT ?_
   refine Zab (vs:=[.agg #[vi b.pts[j].ml,vi b.pts[j].mh],vi 0,vi 99]) rfl (ZfW _ _ _ _ hst) ?_
   rintro v _ ⟨rfl,rfl⟩
   refine wkT ?_
   have next:okP b.pts[j]=true->(b.pts.take (j+1)).all okP=true:=fun h=>by rw[Zi2 (by omega),hall,h];rfl
   have stop:okP b.pts[j]=false->Zbv b=1:=fun h=>by rw[Zbv,if_neg (by omega),ZoU (by omega) h];rfl
   unfold okP at next stop
   refine wiT (fun h3=>?_) (fun h3=>?_)
   ·refine wkT ?_
    exact⟨rfl,by rw[stop (by simp[h3])];rfl⟩
   ·refine wkT ?_
    refine wiT (fun h4=>?_) (fun h4=>?_)
    ·refine wkT ?_
     exact⟨rfl,by rw[stop (by simp;omega)];rfl⟩
    ·refine wkT ?_
     refine Zab (vs:=[.agg #[vi b.pts[j].bl,vi b.pts[j].bh],vi 0,vi 199]) rfl (ZfW _ _ _ _ hst) ?_
     rintro v _ ⟨rfl,rfl⟩
     refine wkT ?_
     refine wiT (fun h5=>?_) (fun h5=>?_)
     ·refine wkT ?_
      exact⟨rfl,by rw[stop (by simp;omega)];rfl⟩
     ·refine wkT ?_
      refine Zab (vs:=[vi b.pts[j].w,vi 0,vi 199]) rfl (ZbI _ _ _) ?_
      rintro v _ ⟨rfl,rfl⟩
      refine wkT ?_
      refine wiT (fun h6=>?_) (fun h6=>?_)
      ·refine wkT ?_
       exact⟨rfl,by rw[stop (by simp;omega)];rfl⟩
      ·refine wkT ?_
       exact⟨⟨j+1,by omega⟩,slt (by omega),⟨rfl,next (by simp;omega)⟩,⟨rfl,rfl,rfl,trivial⟩,trivial,rfl⟩
  ·refine wkT ?_
   have:j=b.pts.length:=by omega
   subst this
   exact⟨rfl,by rw[Zbv,if_neg (by omega),if_pos (by simpa using hall)];rfl⟩
end
def ckS (n:Nat):List SCk->Int
 | []=>0
 | c :: l=>if ¬ (0<=c.p∧c.p<n) then 6 else if ¬ (-199<=c.gl∧c.gl<=c.gh∧c.gh<=199) then 1 else ckS n l
def ZbW (b:Bk):Int:=if 3<b.cks.length then 2 else ckS b.pts.length b.cks
def snag (b:Bk):Int:=if Zbq b≠0 then Zbq b else if Zbv b≠0 then Zbv b else ZbW b
def Zba (H:Hp):Prop:=CellsAt H ⟨0,0,none⟩ [vf 232,vf 233,vf 234]
theorem ZbL {α:Type}{l:List α}{j:Nat}(hj:j<l.length):l.drop j=l[j] :: l.drop (j+1):=List.drop_eq_getElem_cons hj
section
variable  {P:Prg}[Tz P]{H:Hp}
set_option maxHeartbeats 400000
theorem ZmB {bv:Value}{b:Bk}(hb:BkAt H bv b)(hl:b.pts.length<=1000000)(hl2:b.cks.length<=1000000)(hst:P.still H.gh=false):LL.Zai P 234 #[bv] H fun v H'=>H=H'∧v=vi (ZbW b):=by
 have hb0:=hb
 obtain⟨pv,cv,rfl,hp,hc⟩:=hb
 refine IsN.m (isn c234) (args:=[.agg #[vi b.op,vi b.sl,pv,cv]]) rfl ?_
 unfold n234
 refine wkT ?_
 refine Zal hc rfl ?_
 refine wkT ?_
 refine wiT (fun h1=>?_) (fun h1=>?_)
 ·refine wkT ?_
  exact⟨rfl,by rw[ZbW,if_pos (by omega)];rfl⟩
 ·refine wkT ?_
  refine Zal hc rfl ?_
  refine wkT ?_
  refine ZaP b.cks.length (fun j H'=>H=H'∧ckS b.pts.length b.cks=ckS b.pts.length (b.cks.drop j)) (fun j=>[(1,vi 0),(12,cv),(13,vi b.cks.length),(14,vi j)]) (fun _=>[(1,[vi b.op,vi b.sl,pv,cv])]) ⟨rfl,rfl⟩ ⟨rfl,rfl,rfl,rfl,trivial⟩ ⟨rfl,trivial⟩ ?_
  rintro j _ hj ⟨rfl,hall⟩
  refine wkT ?_
  refine wiT (fun h2=>?_) (fun h2=>?_)
  ·have hj':j<b.cks.length:=by omega
   rw[ZbL hj',ckS]at hall
   refine wkT ?_
   refine Zar hc rfl rfl rfl (i:=j) hj' fun a ha=>?_
   refine wkT ?_
   refine Zam hst rfl ha rfl ?_
   refine wkT ?_
   refine Zab (vs:=[.agg #[vi b.op,vi b.sl,pv,cv],vi b.cks[j].p]) rfl (Zfi hb0 _ hl hst) ?_
   rintro v _ ⟨rfl,rfl⟩
   refine wkT ?_
   refine wiT (fun h3=>?_) (fun h3=>?_)
   ·refine wkT ?_
    exact⟨rfl,by rw[ZbW,if_neg (by omega),hall,if_pos h3];rfl⟩
   ·refine wkT ?_
    refine Zab (vs:=[.agg #[vi b.cks[j].gl,vi b.cks[j].gh],vi (-199),vi 199]) rfl (ZfW _ _ _ _ hst) ?_
    rintro v _ ⟨rfl,rfl⟩
    refine wkT ?_
    refine wiT (fun h4=>?_) (fun h4=>?_)
    ·refine wkT ?_
     exact⟨rfl,by rw[ZbW,if_neg (by omega),hall,if_neg (by omega),if_pos h4];rfl⟩
    ·refine wkT ?_
     rw[if_neg (by omega),if_neg (by omega)]at hall
     exact⟨⟨j+1,by omega⟩,slt (by omega),⟨rfl,hall⟩,⟨rfl,rfl,rfl,rfl,trivial⟩,⟨rfl,trivial⟩,rfl⟩
  ·refine wkT ?_
   have:j=b.cks.length:=by omega
   subst this
   rw[List.drop_length]at hall
   exact⟨rfl,by rw[ZbW,if_neg (by omega),hall];rfl⟩
theorem ZaU {bv:Value}{b:Bk}(hb:BkAt H bv b)(hg:Zba H)(hl:b.pts.length<=1000000)(hl2:b.cks.length<=1000000)(hst:P.still H.gh=false):LL.Zai P 78 #[bv] H fun v H'=>H=H'∧v=vi (snag b):=by
 have hb0:=hb
 obtain⟨pv,cv,rfl,hp,hc⟩:=hb
 refine IsN.m (isn c78) (args:=[.agg #[vi b.op,vi b.sl,pv,cv]]) rfl ?_
 unfold n78
 refine wkT ?_
 refine Zam hst rfl hg rfl ?_
 refine wkT ?_
 refine ZaP 3 (fun j H'=>H=H'∧(1<=j->Zbq b=0)∧(2<=j->Zbv b=0)∧(3<=j->ZbW b=0)) (fun j=>[(1,vi 0),(6,.agg #[vf 232,vf 233,vf 234]),(7,vi j)]) (fun _=>[(1,[vi b.op,vi b.sl,pv,cv])]) ⟨rfl,by omega,by omega,by omega⟩ ⟨rfl,rfl,rfl,trivial⟩ ⟨rfl,trivial⟩ ?_
 rintro j _ hj ⟨rfl,g1,g2,g3⟩
 refine wkT ?_
 refine wiT (fun h1=>?_) (fun h1=>?_)
 ·have hj3:j=0∨j=1∨j=2:=by omega
  refine wkT ?_
  rcases hj3 with rfl | rfl | rfl
  ·refine ZdA (und u178) (tif t177) (agf a177) rfl rfl (i:=0) (by omega) rfl ?_
   refine wkT ?_
   refine ZaX rfl rfl (Zdh (by kernel_rfl) (ZmA hb0 hst)) ?_
   rintro v _ ⟨rfl,rfl⟩
   refine wkT ?_
   refine wiT (fun h2=>?_) (fun h2=>?_)
   ·refine wkT ?_
    exact⟨rfl,by rw[snag,if_pos (by exact h2)];rfl⟩
   ·refine wkT ?_
    exact⟨⟨1,by omega⟩,(by show 3-1<3-0;omega),⟨rfl,fun _=>h2,fun h=>absurd (show 2<=1 from h) (by omega),fun h=>absurd (show 3<=1 from h) (by omega)⟩,⟨rfl,rfl,rfl,trivial⟩,⟨rfl,trivial⟩,rfl⟩
  ·refine ZdA (und u178) (tif t177) (agf a177) rfl rfl (i:=1) (by omega) rfl ?_
   refine wkT ?_
   refine ZaX rfl rfl (Zdh (by kernel_rfl) (ZnI hb0 hl hst)) ?_
   rintro v _ ⟨rfl,rfl⟩
   refine wkT ?_
   refine wiT (fun h2=>?_) (fun h2=>?_)
   ·refine wkT ?_
    exact⟨rfl,by rw[snag,if_neg (by rw[g1 (by omega)];simp),if_pos h2];rfl⟩
   ·refine wkT ?_
    exact⟨⟨2,by omega⟩,(by show 3-2<3-1;omega),⟨rfl,fun _=>g1 (by omega),fun _=>h2,fun h=>absurd (show 3<=2 from h) (by omega)⟩,⟨rfl,rfl,rfl,trivial⟩,⟨rfl,trivial⟩,rfl⟩
  ·refine ZdA (und u178) (tif t177) (agf a177) rfl rfl (i:=2) (by omega) rfl ?_
   refine wkT ?_
   refine ZaX rfl rfl (Zdh (by kernel_rfl) (ZmB hb0 hl hl2 hst)) ?_
   rintro v _ ⟨rfl,rfl⟩
   refine wkT ?_
   refine wiT (fun h2=>?_) (fun h2=>?_)
   ·refine wkT ?_
    exact⟨rfl,by rw[snag,if_neg (by rw[g1 (by omega)];simp),if_neg (by rw[g2 (by omega)];simp)];rfl⟩
   ·refine wkT ?_
    exact⟨⟨3,by omega⟩,(by show 3-3<3-2;omega),⟨rfl,fun _=>g1 (by omega),fun _=>g2 (by omega),fun _=>h2⟩,⟨rfl,rfl,rfl,trivial⟩,⟨rfl,trivial⟩,rfl⟩
 ·have:j=3:=by omega
  subst this
  refine wkT ?_
  exact⟨rfl,by rw[snag,if_neg (by rw[g1 (by omega)];simp),if_neg (by rw[g2 (by omega)];simp),g3 (by omega)];rfl⟩
end
structure N4 where
 (a b c d:Int)
def N4.get (n:N4):Nat->Int
 | 0=>n.a
 | 1=>n.b
 | 2=>n.c
 | _=>n.d
def N4.of (f:Nat->Int):N4:=⟨f 0,f 1,f 2,f 3⟩
theorem N4.of_get (f:Nat->Int){j:Nat}(hj:j<4):(N4.of f).get j=f j:=by
 match j,hj with
 | 0,_=>rfl
 | 1,_=>rfl
 | 2,_=>rfl
 | 3,_=>rfl
theorem N4.ext' {m n:N4}(h:∀ j,j<4->m.get j=n.get j):m=n:=by
 cases m;cases n
 have h0:=h 0 (by omega);have h1:=h 1 (by omega);have h2:=h 2 (by omega);have h3:=h 3 (by omega)
 simp only[N4.get]at h0 h1 h2 h3
 subst h0 h1 h2 h3
 rfl
def N4.cells (n:N4):List Value:=[vi n.a,vi n.b,vi n.c,vi n.d]
def N4.list (n:N4):List Int:=[n.a,n.b,n.c,n.d]
def numV (n:N4):Value:=.agg #[vi n.a,vi n.b,vi n.c,vi n.d]
theorem Zc0 (n:N4){j:Nat}(hj:j<4):n.cells[0+j * 1]? = some (vi (n.get j)):=by
 match j,hj with
 | 0,_=>rfl
 | 1,_=>rfl
 | 2,_=>rfl
 | 3,_=>rfl
def N4.put (n:N4)(j:Nat)(v:Int):N4:=N4.of fun i=>if i=j then v else n.get i
theorem Ze2 (n:N4){j:Nat}(v:Int)(hj:j<4):ZaO n.cells (0+j * 1) [vi v]=(n.put j v).cells:=by
 match j,hj with
 | 0,_=>rfl
 | 1,_=>rfl
 | 2,_=>rfl
 | 3,_=>rfl
theorem N4.put_get (n:N4){i j:Nat}(v:Int)(hi:i<4):(n.put j v).get i=if i=j then v else n.get i:=N4.of_get _ hi
structure Boat where
 m:N4
 (bf by_:Int)
def Boat.cells (x:Boat):List Value:=[vi x.m.a,vi x.m.b,vi x.m.c,vi x.m.d,vi x.bf,vi x.by_]
def ZaS (x:Boat):Value:=.agg #[vi x.m.a,vi x.m.b,vi x.m.c,vi x.m.d,vi x.bf,vi x.by_]
theorem boat_get (x:Boat){j:Nat}(hj:j<4):x.cells[0+j * 1]? = some (vi (x.m.get j)):=by
 match j,hj with
 | 0,_=>rfl
 | 1,_=>rfl
 | 2,_=>rfl
 | 3,_=>rfl
instance:Enc Boat:=⟨6,fun x=>x.cells,fun _=>rfl⟩
def ZkH (b:Bk)(x:Boat)(i:Nat):Int:=b.op-x.m.get i+if x.bf<=i then x.by_ else 0
def Zav (b:Bk)(x:Boat):N4:=.of fun i=>if i<b.pts.length then ZkH b x i else 0
def Sm (n:Int):Prop:=-100000<=n∧n<=100000
def N4.Sm (n:N4):Prop:=∀ j,j<4->Proofs.Sm (n.get j)
structure BtOk (x:Boat):Prop where
 m:x.m.Sm
 by_:Sm x.by_
structure BkOk (b:Bk):Prop where
 op:Sm b.op
 le:b.pts.length<=4
def upTo (b:Bk)(x:Boat)(j:Nat):N4:=.of fun i=>if i<j then ZkH b x i else 0
theorem Zm4 {b:Bk}{x:Boat}{j:Nat}(_hj:j<4):(upTo b x j).put j (ZkH b x j)=upTo b x (j+1):=by
 refine N4.ext' fun i hi=>?_
 rw[N4.put_get _ _ hi,upTo,N4.of_get _ hi,upTo,N4.of_get _ hi]
 by_cases e:i=j
 ·subst e;simp
 ·rw[if_neg e]
  by_cases h:i<j
  ·rw[if_pos h,if_pos (by omega)]
  ·rw[if_neg h,if_neg (by omega)]
theorem N4.put_put (n:N4){j:Nat}(v w:Int):(n.put j v).put j w=n.put j w:=by
 refine N4.ext' fun i hi=>?_
 rw[N4.put_get _ _ hi,N4.put_get _ _ hi,N4.put_get _ _ hi]
 split<;>rfl
section
variable  {P:Prg}[Tz P]{H:Hp}
set_option maxHeartbeats 400000
theorem ZdG {bv:Value}{b:Bk}{x:Boat}(hb:BkAt H bv b)(ok:BkOk b)(okx:BtOk x)(hst:P.still H.gh=false):LL.Zai P 100 #[bv,ZaS x] H fun v H'=>H=H'∧v=numV (Zav b x):=by
 obtain⟨pv,cv,rfl,hp,hc⟩:=hb
 have hle:=ok.le
 obtain⟨ho1,ho2⟩:=ok.op
 obtain⟨hy1,hy2⟩:=okx.by_
 refine IsN.m (isn c100) (args:=[.agg #[vi b.op,vi b.sl,pv,cv],ZaS x]) rfl ?_
 unfold n100
 refine wkT ?_
 refine Zal hp rfl ?_
 refine wkT ?_
 refine ZaP b.pts.length (fun j H'=>H=H') (fun j=>[(2,vi 0),(3,vi 0),(4,vi 0),(5,vi 0),(10,vi b.pts.length),(11,vi j)]) (fun j=>[(2,[vi b.op,vi b.sl,pv,cv]),(3,x.cells),(4,[vi 0,vi 0,vi 0,vi 0]),(5,(upTo b x j).cells)]) rfl ⟨rfl,rfl,rfl,rfl,rfl,rfl,trivial⟩ ⟨rfl,rfl,rfl,rfl,trivial⟩ ?_
 rintro j _ hj rfl
 refine wkT ?_
 refine wiT (fun h1=>?_) (fun h1=>?_)
 ·have hj4:j<4:=by omega
  obtain⟨hm1,hm2⟩:=okx.m j hj4
  refine wkT ?_
  refine ZcS rfl rfl hj4 ?_
  refine wkT ?_
  refine Zdz hst rfl rfl (boat_get x hj4) ?_
  refine wkT ?_
  refine ZcS rfl rfl hj4 ?_
  refine wkT ?_
  refine Zll hst rfl rfl rfl rfl (by show 0+j * 1+1<=4;omega) rfl ?_
  refine wkT ?_
  refine wiT (fun h2=>?_) (fun h2=>?_)
  ·refine wkT ?_
   refine ZcS rfl rfl hj4 ?_
   refine wkT ?_
   refine Zdz (v:=vi (b.op-x.m.get j)) hst rfl rfl (by show (ZaO (upTo b x j).cells (0+j * 1) [vi (b.op-x.m.get j)])[0+j * 1]? = _;rw[Ze2 _ _ hj4,Zc0 _ hj4,N4.put_get _ _ hj4,if_pos rfl]) ?_
   refine wkT ?_
   refine ZcS rfl rfl hj4 ?_
   refine wkT ?_
   refine Zll hst rfl rfl rfl rfl (by show 0+j * 1+1<=(ZaO (upTo b x j).cells (0+j * 1) [vi (b.op-x.m.get j)]).length;rw[Ze2 _ _ hj4];show _<=4;omega) rfl ?_
   refine wkT ?_
   refine⟨⟨j+1,by omega⟩,slt (by omega),rfl,⟨rfl,rfl,rfl,rfl,rfl,rfl,trivial⟩,⟨rfl,rfl,rfl,?_,trivial⟩,rfl⟩
   show some (ZaO (ZaO (upTo b x j).cells (0+j * 1) [vi (b.op-x.m.get j)]) (0+j * 1) [vi (b.op-x.m.get j+x.by_)])=some (upTo b x (j+1)).cells
   rw[Ze2 _ _ hj4,Ze2 _ _ hj4,N4.put_put,<-Zm4 hj4,ZkH,if_pos h2]
  ·refine wkT ?_
   refine⟨⟨j+1,by omega⟩,slt (by omega),rfl,⟨rfl,rfl,rfl,rfl,rfl,rfl,trivial⟩,⟨rfl,rfl,rfl,?_,trivial⟩,rfl⟩
   show some (ZaO (upTo b x j).cells (0+j * 1) [vi (b.op-x.m.get j)])=some (upTo b x (j+1)).cells
   rw[Ze2 _ _ hj4,<-Zm4 hj4,ZkH,if_neg h2,Int.add_zero]
 ·have:j=b.pts.length:=by omega
  subst this
  refine wkT ?_
  exact⟨rfl,rfl⟩
end
theorem Zcu {α:Type}[Enc α](l l':List α):encs (l++l')=encs l++encs l':=by simp[encs]
structure Own {α:Type}[Enc α](H0 H:Hp)(E:TypeId)(v:Value)(l:List α)(b:Option Nat):Prop where
 own:OwnS H E (Enc.sz α) v (encs l) l.length b
 fresh:∀ r,b=some r->H0 r=none
theorem Own.nil {α:Type}[Enc α](H0 H:Hp)(E:TypeId):Own H0 H E (.slice none 0 0) ([]:List α) none:=⟨.nil H E _,fun r h=>by simp at h⟩
theorem Own.sl {α:Type}[Enc α]{H0 H:Hp}{E:TypeId}{v:Value}{l:List α}{b:Option Nat}(h:Own H0 H E v l b):SlAt H v l:=by
 obtain⟨A,c,h1,h2⟩:=h.own.cells
 exact⟨A,c,h1,fun hn=>h2 (by simpa using hn)⟩
theorem Own.ins {α:Type}[Enc α]{H0 H:Hp}{E:TypeId}{v:Value}{l:List α}{b:Option Nat}(h:Own H0 H E v l b){r:Nat}{o:Obj}(hr:H r=none):Own H0 (H.ins r o) E v l b:=
 ⟨h.own.sub fun c y _ hc=>(ZaV hr).mem c y hc,h.fresh⟩
def Apart (b b2:Option Nat):Prop:=∀ r,b=some r->b2≠some r
theorem Apart.none (b:Option Nat):Apart none b:=fun r h=>by simp at h
theorem Apart.symm {b b2:Option Nat}(h:Apart b b2):Apart b2 b:=fun r h1 h2=>h r h2 h1
theorem ZoJ {H0 H H':Hp}{b b':Option Nat}(hs:H0.Sub H)(hf:∀ r,b=some r->H0 r=none)(c:Chg H H' b b'):H0.Sub H':=
 ⟨fun d y hd=>c.keep d y (hs.mem d y hd) (fun e=>by rw[hf d e]at hd;simp at hd),c.gh.trans hs.gh⟩
theorem Own.other {α β:Type}[Enc α][Enc β]{H0 H H':Hp}{E E2:TypeId}{v v2:Value}{l:List α}{l2:List β}{b b' b2:Option Nat}(_h:Own H0 H E v l b)(h2:Own H0 H E2 v2 l2 b2)(ha:Apart b b2)(c:Chg H H' b b'):Own H0 H' E2 v2 l2 b2∧Apart b' b2:=by
 have hk:∀ d y,b2=some d->H d=some y->H' d=some y:=fun d y e hd=>c.keep d y hd (fun e2=>ha d e2 e)
 refine⟨⟨h2.own.sub hk,h2.fresh⟩,?_⟩
 rcases c.new with rfl | ⟨r,rfl,hr⟩
 ·exact ha
 ·intro r' e e2
  obtain rfl:=Option.some.inj e
  obtain⟨_,⟨_,_,e3⟩ | ⟨r2,_,_,e3,_,e4,_⟩⟩:=h2.own
  ·rw[e3]at e2;simp at e2
  ·rw[e3]at e2
   obtain rfl:=Option.some.inj e2
   rw[hr]at e4;simp at e4
theorem Own.fresh' {α:Type}[Enc α]{H0 H H':Hp}{E:TypeId}{v:Value}{l:List α}{b b':Option Nat}(hs:H0.Sub H)(h:Own H0 H E v l b)(c:Chg H H' b b'):∀ r,b'=some r->H0 r=none:=by
 rcases c.new with rfl | ⟨r,rfl,hr⟩
 ·exact h.fresh
 ·intro r' e
  obtain rfl:=Option.some.inj e
  cases hh:H0 r with
  | none=>rfl
  | some y=>rw[hs.mem r y hh]at hr;simp at hr
theorem ZaT {α:Type}[Enc α]{H:Hp}{r:Nat}{E:TypeId}{l:List α}{c:Nat}:SlAt (H.ins r (.cells (encs l).toArray E)) (.slice (some ⟨r,0,none⟩) l.length c) l:=
 ⟨_,_,rfl,fun _=>⟨_,rfl,rfl,_,_,Hp.ins_same _ _ _,fun j hj=>by simp[Obj.at?]⟩⟩
section
variable  {P:Prg}[Tz P]{H:Hp}{d:Option Nat}{next:NSt->Hp->Prop}{σ:NSt}{x y:Operand}
theorem ZjD {α:Type}[Enc α]{H0:Hp}{sT sT' E T:TypeId}{by_:Nat}{zv s w:Value}{l l':List α}{b:Option Nat}(hu:P.toProgram.underlying sT=some (.slice E))(hu':P.toProgram.underlying sT'=some (.slice E))(ti:TI P.toProgram E (Enc.sz α) zv by_)(hz:zv.cells.size=Enc.sz α)(he:0<Enc.sz α)
  (hs:H0.Sub H) (ho:Own H0 H E s l b) (hw:SlAt H w l') (h1:((encs l').all Value.isOne)=true) (hb1:l.length+l'.length<=1000000000) (hb2:by_<=1000) (e1:σ.get x=some s) (e2:σ.get y=some w) (hst:P.still H.gh=false)
  (h:∀ v' H' b',H0.Sub H'->Own H0 H' E v' (l++l') b'->Chg H H' b b'->next (σ.set d v') H'):(NOp.raw (.call { callee:=.builtin .append,args:=#[x,y],argTypes:=#[sT,sT'] }) T).m P d next σ H:=by
 obtain⟨A,c,rfl,h2⟩:=hw
 by_cases hn:l'=[]
 ·subst hn
  refine ZdB hu hu' ti hz he e1 e2 ho.own (m:=0) (xs:=[]) (.inl ⟨rfl,A,c,rfl⟩) (by simp) rfl hb1 hb2 hst fun v' H' b' g1 g2=>?_
  exact h v' H' b' (ZoJ hs ho.fresh g2) ⟨by simpa using g1,ho.fresh' hs g2⟩ g2
 ·obtain⟨a,rfl,hc⟩:=h2 hn
  refine ZdB hu hu' ti hz he e1 e2 ho.own (m:=l'.length) (xs:=encs l') (.inr ⟨a,c,rfl,hc⟩) (ZbJ l') h1 hb1 hb2 hst fun v' H' b' g1 g2=>?_
  refine h v' H' b' (ZoJ hs ho.fresh g2) ⟨?_,ho.fresh' hs g2⟩ g2
  rw[Zcu,List.length_append]
  exact g1
end
end Go.Proofs
end
