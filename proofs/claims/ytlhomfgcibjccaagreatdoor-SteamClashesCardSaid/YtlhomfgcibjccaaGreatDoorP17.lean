import Derived.Test.YtlhomfgcibjccaaGreatDoorP06
import Derived.Test.YtlhomfgcibjccaaGreatDoorP07
import Derived.Test.YtlhomfgcibjccaaGreatDoorP16
import Derived.KernelRfl
import Derived.Test.YtlhomfgcibjccaaGreatDoorProg
set_option linter.all false
section
open Go Go.LL
namespace Go.Z
instance (n:Nat):OfNat Operand n:=⟨.tmp n⟩
instance:Coe NI (NI×Option Bool):=⟨λx=>(x,none)⟩
abbrev k(n:Int):Operand:=.const (.int .i64 n)
abbrev k0:Operand:=.const (.bool false)
abbrev k1:Operand:=.const (.bool true)
abbrev z0:Value:=.int .i64 0
abbrev s0:Value:=.slice none 0 0
abbrev o(d:Nat)(x:bC):NI:=⟨none,some d,x⟩
abbrev u(x:bC):NI:=⟨none,none,x⟩
abbrev gf(g d:Nat)(x:bC):NI:=⟨some (g,false),some d,x⟩
abbrev gt(g d:Nat)(x:bC):NI:=⟨some (g,true),some d,x⟩
abbrev m(d a:Nat):NI:=⟨none,some d,.fB (.tmp a)⟩
abbrev mf(g d a:Nat):NI:=⟨some (g,false),some d,.fB (.tmp a)⟩
abbrev mt(g d a:Nat):NI:=⟨some (g,true),some d,.fB (.tmp a)⟩
abbrev mi(d:Nat)(n:Int):NI:=⟨none,some d,.fB (.const (.int .i64 n))⟩
abbrev m0(d:Nat):NI:=⟨none,some d,.fB (.const (.bool false))⟩
abbrev m1(d:Nat):NI:=⟨none,some d,.fB (.const (.bool true))⟩
abbrev x(d a i:Nat):NI:=⟨none,some d,.ext (.tmp a) i⟩
abbrev l(d a b c:Nat):NI:=⟨none,some d,.jM a (some b) c⟩
abbrev ln(d a b:Nat):NI:=⟨none,some d,.jM a none b⟩
abbrev f(d a b:Nat):NI:=⟨none,some d,.dE a b⟩
abbrev ia(d e a b:Nat):NI:=⟨none,some d,.cJ e (.tmp a) (.tmp b)⟩
abbrev c0(d f:Nat):NI:=⟨none,some d,.call f []⟩
abbrev c1(d f a:Nat):NI:=⟨none,some d,.call f [.tmp a]⟩
abbrev c2(d f a b:Nat):NI:=⟨none,some d,.call f [.tmp a,.tmp b]⟩
abbrev c3(d f a b c:Nat):NI:=⟨none,some d,.call f [.tmp a,.tmp b,.tmp c]⟩
abbrev ls(a b c x:Nat):NI:=⟨none,none,.sL a b c (.tmp x)⟩
abbrev ld(d a:Nat):NI:=⟨none,some d,.ld none (.tmp a)⟩
abbrev lm(d n a:Nat):NI:=⟨none,some d,.ld (some n) (.tmp a)⟩
abbrev le(d a:Nat):NI:=⟨none,some d,.len (.tmp a)⟩
abbrev b(d:Nat)(p:BinOp)(x y:Nat):NI:=⟨none,some d,.bQ p (.tmp x) (.tmp y)⟩
abbrev bk(d:Nat)(p:BinOp)(x:Nat)(n:Int):NI:=⟨none,some d,.bQ p (.tmp x) (.const (.int .i64 n))⟩
abbrev po(d x y:Nat):NI:=⟨none,some d,.pick (.tmp x) (.const (.bool true)) (.tmp y)⟩
abbrev pa(d x y:Nat):NI:=⟨none,some d,.pick (.tmp x) (.tmp y) (.const (.bool false))⟩
abbrev st(e x y r:Nat):NI:=⟨none,none,.raw (.store e (.tmp x) (.tmp y)) r⟩
abbrev sq(l:List NI)(c:Ze):Ze:=.seq (.aI l) c
end Go.Z
end
section
open Go Go.LL
namespace Go.LL
theorem bZ{P:Program}{f:FuncId}{k:Nat}{n:Ze}{rs:List Zf}{fn:Func}(L:List (Nat×Nat))(h:P.funcs[f]? = some fn)(h1:fn.body.bind (Z7 P L fn.ntmps ⟨true,fn.norace⟩)=some n:=by kernel_rfl)(h2:Ou P L fn.results.toList=some rs:=by kernel_rfl)(h3:((L.all λp=>decide (k<=p.1)) && decide (k<=fn.ntmps) && (!(sE L) || fn.norace))=true:=by kernel_rfl):aO P f k n rs:=⟨fn,L,h,h1,h2,h3⟩
end Go.LL
end
open Go Go.LL Go Go.LL
namespace Go.Proofs
section
open Go.Z
def Ng:Ze:=(.seq (.cond k1 (.seq (sq [m 9 1,bk 10 .lss 9 0] (.cond 10 (.aI [m 11 0,o 12 (.raw (.convert 224 226 11) 226),o 13 (.raw (.call (.mk (.value (.func 184)) #[12] #[226])) 0)]) .skip)) (sq [o 14 (.raw (.call (.mk (.value (.func 185)) #[] #[])) 0)] (.aI [u (.raw (.defer (.mk (.value (.func 186)) #[] #[])) 0)]))) .skip) (sq [m0 4] (.seq (sq [o 15 (.raw (.call (.mk (.value (.func 187)) #[] #[])) 4)] (.cond 15 (sq [m 16 0,o 17 (.raw (.call (.mk (.value (.func 188)) #[16] #[224])) 227)] (.block 0 (sq [bk 19 .eql 17 0,m 18 19] (.cond 18 .skip (sq [bk 21 .eql 17 2,m 20 21] (.cond 20 (.aI [o 22 (.raw (.call (.mk (.value (.func 189)) #[(.const (.string (.mk #[115,121,110,99,58,32,87,97,105,116,71,114,111,117,112,46,65,100,100,32,99,97,108,108,101,100,32,102,114,111,109,32,109,117,108,116,105,112,108,101,32,115,121,110,99,116,101,115,116,32,98,117,98,98,108,101,115])))] #[9])) 0)]) (sq [bk 24 .eql 17 1,m 23 24] (.cond 23 (sq [m1 4] (sq [m 25 0,o 26 (.raw (.nilCheck 25) 0),o 27 (.bM 0 26),o 28 (.call 190 [27,(.const (.int .u64 2147483648))]),m 5 28] (sq [m 29 5,o 30 (.bQ .neq 29 (.const (.int .u64 0))),m 31 30,mt 31 32 5,gt 31 33 (.raw (.binOp .and 189 32 (.const (.int .u64 2147483648)) 189) 189),gt 31 34 (.bQ .eql 33 (.const (.int .u64 0))),pa 35 31 34] (.cond 35 (.aI [o 36 (.raw (.call (.mk (.value (.func 189)) #[(.const (.string (.mk #[115,121,110,99,58,32,87,97,105,116,71,114,111,117,112,46,65,100,100,32,99,97,108,108,101,100,32,102,114,111,109,32,105,110,115,105,100,101,32,97,110,100,32,111,117,116,115,105,100,101,32,115,121,110,99,116,101,115,116,32,98,117,98,98,108,101])))] #[9])) 0)]) .skip)))) .skip)))))))) .skip)) (sq [m 37 0,o 38 (.raw (.nilCheck 37) 0),o 39 (.bM 0 38),m 40 1,o 41 (.raw (.convert 3 189 40) 189),o 42 (.raw (.binOp .shl 189 41 (.const (.int .u64 32)) 176) 189),c2 43 191 39 42,m 6 43] (.seq (sq [m 44 6,o 45 (.raw (.binOp .and 189 44 (.const (.int .u64 2147483648)) 189) 189),o 46 (.bQ .neq 45 (.const (.int .u64 0))),m 47 46,mt 47 48 4,gt 47 49 (.not 48),pa 50 47 49] (.cond 50 (.aI [o 51 (.raw (.call (.mk (.value (.func 189)) #[(.const (.string (.mk #[115,121,110,99,58,32,87,97,105,116,71,114,111,117,112,46,65,100,100,32,99,97,108,108,101,100,32,102,114,111,109,32,105,110,115,105,100,101,32,97,110,100,32,111,117,116,115,105,100,101,32,115,121,110,99,116,101,115,116,32,98,117,98,98,108,101])))] #[9])) 0)]) .skip)) (sq [m 52 6,o 53 (.raw (.binOp .shr 189 52 (.const (.int .u64 32)) 176) 189),o 54 (.raw (.convert 189 21 53) 21),m 7 54] (sq [m 55 6,o 56 (.raw (.binOp .and 189 55 (.const (.int .u64 2147483647)) 189) 189),o 57 (.raw (.convert 189 182 56) 182),m 8 57] (.seq (sq [m1 58,mt 58 59 1,gt 58 60 (.bQ .gtr 59 (k 0)),pa 61 58 60,m 62 61,mt 62 63 7,mt 62 64 1,gt 62 65 (.raw (.convert 3 21 64) 21),gt 62 66 (.bQ .eql 63 65),pa 67 62 66] (.cond 67 (.aI [m 68 0,o 69 (.raw (.nilCheck 68) 0),o 70 (.bM 1 69),o 71 (.raw (.convert 231 226 70) 226),o 72 (.raw (.call (.mk (.value (.func 192)) #[71] #[226])) 0)]) .skip)) (.seq (sq [m 73 7,o 74 (.bQ .lss 73 (.const (.int .i32 0)))] (.cond 74 (.aI [o 75 (.raw (.makeInterface 9 (.const (.string (.mk #[115,121,110,99,58,32,110,101,103,97,116,105,118,101,32,87,97,105,116,71,114,111,117,112,32,99,111,117,110,116,101,114])))) 20),u (.raw (.panic 75) 0)]) .skip)) (.seq (sq [m 76 8,o 77 (.bQ .neq 76 (.const (.int .u32 0))),m 78 77,mt 78 79 1,gt 78 80 (.bQ .gtr 79 (k 0)),pa 81 78 80,m 82 81,mt 82 83 7,mt 82 84 1,gt 82 85 (.raw (.convert 3 21 84) 21),gt 82 86 (.bQ .eql 83 85),pa 87 82 86] (.cond 87 (.aI [o 88 (.raw (.makeInterface 9 (.const (.string (.mk #[115,121,110,99,58,32,87,97,105,116,71,114,111,117,112,32,109,105,115,117,115,101,58,32,65,100,100,32,99,97,108,108,101,100,32,99,111,110,99,117,114,114,101,110,116,108,121,32,119,105,116,104,32,87,97,105,116])))) 20),u (.raw (.panic 88) 0)]) .skip)) (.seq (sq [m 89 7,o 90 (.bQ .gtr 89 (.const (.int .i32 0))),m 91 90,mf 91 92 8,gf 91 93 (.bQ .eql 92 (.const (.int .u32 0))),po 94 91 93] (.cond 94 .ret .skip)) (.seq (sq [m 95 0,o 96 (.raw (.nilCheck 95) 0),o 97 (.bM 0 96),c1 98 193 97,m 99 6,b 100 .neq 98 99] (.cond 100 (.aI [o 101 (.raw (.makeInterface 9 (.const (.string (.mk #[115,121,110,99,58,32,87,97,105,116,71,114,111,117,112,32,109,105,115,117,115,101,58,32,65,100,100,32,99,97,108,108,101,100,32,99,111,110,99,117,114,114,101,110,116,108,121,32,119,105,116,104,32,87,97,105,116])))) 20),u (.raw (.panic 101) 0)]) .skip)) (sq [m 102 0,o 103 (.raw (.nilCheck 102) 0),o 104 (.bM 0 103),o 105 (.call 194 [104,(.const (.int .u64 0))])] (.seq (sq [m 106 4] (.cond 106 (.aI [m 107 0,o 108 (.raw (.call (.mk (.value (.func 195)) #[107] #[224])) 0)]) .skip)) (.block 1 (.loop (.seq (sq [m 109 8,o 110 (.bQ .neq 109 (.const (.int .u32 0)))] (.cond 110 .skip (.exit 1))) (.seq (.block 2 (.aI [m 113 0,o 114 (.raw (.nilCheck 113) 0),o 115 (.bM 1 114),o 116 (.raw (.call (.mk (.value (.func 196)) #[115,k0,(k 0)] #[231,4,3])) 0)])) (.aI [m 111 8,o 112 (.raw (.binOp .sub 182 111 (.const (.int .u32 1)) 182) 182),m 8 112])))))))))))))))))))
def ZrW:List Zf:=[]
theorem Znh:aO Tryz.prog 147 2 Ng ZrW:=bZ [(999999,0)] Tryz.func147
def ZkT:Ze:=(.aI [m 2 0,o 3 (.call 147 [2,(.const (.int .i64 (Int.negSucc 0)))])])
def ZrJ:List Zf:=[]
theorem ZxA:aO Tryz.prog 149 1 ZkT ZrJ:=bZ [(999999,0)] Tryz.func149
def ZkI:Ze:=(.aI [m 2 0,o 3 (.raw (.nilCheck 2) 0),o 4 (.bM 0 3),c1 5 197 4])
def Zry:List Zf:=[]
theorem Zxp:aO Tryz.prog 150 1 ZkI Zry:=bZ [(999999,0)] Tryz.func150
def ZkB:Ze:=(.aI [m 2 0,o 3 (.raw (.nilCheck 2) 0),o 4 (.bM 0 3),c1 5 198 4])
def Zrq:List Zf:=[]
theorem Zxi:aO Tryz.prog 151 1 ZkB Zrq:=bZ [(999999,0)] Tryz.func151
def Zkv:Ze:=(.seq (.cond k1 (.aI [o 7 (.raw (.call (.mk (.value (.func 185)) #[] #[])) 0)]) .skip) (.block 0 (.loop (.block 1 (sq [m 8 0,o 9 (.raw (.nilCheck 8) 0),o 10 (.bM 0 9),c1 11 193 10,m 2 11] (sq [m 12 2,o 13 (.raw (.binOp .shr 189 12 (.const (.int .u64 32)) 176) 189),o 14 (.raw (.convert 189 21 13) 21),m 3 14] (sq [m 15 2,o 16 (.raw (.binOp .and 189 15 (.const (.int .u64 2147483647)) 189) 189),o 17 (.raw (.convert 189 182 16) 182),m 4 17] (.seq (sq [m 18 3,o 19 (.bQ .eql 18 (.const (.int .i32 0)))] (.cond 19 (.seq (.cond k1 (sq [o 20 (.raw (.call (.mk (.value (.func 186)) #[] #[])) 0)] (.aI [m 21 0,o 22 (.raw (.convert 224 226 21) 226),o 23 (.raw (.call (.mk (.value (.func 200)) #[22] #[226])) 0)])) .skip) (.seq (sq [m 24 4,o 25 (.bQ .eql 24 (.const (.int .u32 0))),m 26 25,mt 26 27 2,gt 26 28 (.raw (.binOp .and 189 27 (.const (.int .u64 2147483648)) 189) 189),gt 26 29 (.bQ .neq 28 (.const (.int .u64 0))),pa 30 26 29,m 31 30,mt 31 32 0,gt 31 33 (.raw (.call (.mk (.value (.func 201)) #[32] #[224])) 4),pa 34 31 33] (.cond 34 (sq [m 35 0,o 36 (.raw (.nilCheck 35) 0),o 37 (.bM 0 36),m 38 2,o 39 (.call 202 [37,38,(.const (.int .u64 0))])] (.cond 39 (.aI [m 40 0,o 41 (.raw (.call (.mk (.value (.func 195)) #[40] #[224])) 0)]) .skip)) .skip)) .ret)) .skip)) (sq [m 42 0,o 43 (.raw (.nilCheck 42) 0),o 44 (.bM 0 43),m 45 2,m 46 2,o 47 (.bQ .add 46 (.const (.int .u64 1))),c3 48 202 44 45 47] (.cond 48 (.seq (sq [m1 49,mt 49 50 4,gt 49 51 (.bQ .eql 50 (.const (.int .u32 0))),pa 52 49 51] (.cond 52 (.aI [m 53 0,o 54 (.raw (.nilCheck 53) 0),o 55 (.bM 1 54),o 56 (.raw (.convert 231 226 55) 226),o 57 (.raw (.call (.mk (.value (.func 203)) #[56] #[226])) 0)]) .skip)) (sq [m0 5] (.seq (sq [m 58 2,o 59 (.raw (.binOp .and 189 58 (.const (.int .u64 2147483648)) 189) 189),o 60 (.bQ .neq 59 (.const (.int .u64 0))),m 61 60,gt 61 62 (.raw (.call (.mk (.value (.func 187)) #[] #[])) 4),pa 63 61 62] (.cond 63 (.seq (.cond k1 (.aI [o 64 (.raw (.call (.mk (.value (.func 186)) #[] #[])) 0)]) .skip) (.seq (sq [m 65 0,o 66 (.raw (.call (.mk (.value (.func 201)) #[65] #[224])) 4)] (.cond 66 (.aI [m1 5]) .skip)) (.cond k1 (.aI [o 67 (.raw (.call (.mk (.value (.func 185)) #[] #[])) 0)]) .skip))) .skip)) (sq [m 68 0,o 69 (.raw (.nilCheck 68) 0),o 70 (.bM 1 69),m 71 5,o 72 (.raw (.call (.mk (.value (.func 204)) #[70,71] #[231,4])) 0)] (sq [m 73 0,o 74 (.raw (.nilCheck 73) 0),o 75 (.bM 0 74),c1 76 193 75,o 77 (.bQ .neq 76 (.const (.int .u64 0))),m 6 77] (.seq (.cond k1 (sq [o 78 (.raw (.call (.mk (.value (.func 186)) #[] #[])) 0)] (.aI [m 79 0,o 80 (.raw (.convert 224 226 79) 226),o 81 (.raw (.call (.mk (.value (.func 200)) #[80] #[226])) 0)])) .skip) (.seq (sq [m 82 6] (.cond 82 (.aI [o 83 (.raw (.makeInterface 9 (.const (.string (.mk #[115,121,110,99,58,32,87,97,105,116,71,114,111,117,112,32,105,115,32,114,101,117,115,101,100,32,98,101,102,111,114,101,32,112,114,101,118,105,111,117,115,32,87,97,105,116,32,104,97,115,32,114,101,116,117,114,110,101,100])))) 20),u (.raw (.panic 83) 0)]) .skip)) .ret))))))) .skip))))))))))
def Zrk:List Zf:=[]
theorem Zxc:aO Tryz.prog 153 1 Zkv Zrk:=bZ [(999999,0)] Tryz.func153
def ZjO:Ze:=(sq [o 4 (.fB (.const (.int .u64 0)))] (sq [m 5 0,o 6 (.raw (.nilCheck 5) 0),o 7 (.bM 0 6),m 8 1,o 9 (.raw (.call (.mk (.value (.func 225)) #[7,8] #[258,189])) 189),m 4 9] .ret))
def Zqz:List Zf:=[(.aY 4)]
theorem Zwv:aO Tryz.prog 191 2 ZjO Zqz:=bZ [(999999,0)] Tryz.func191
def ZjN:Ze:=(sq [o 2 (.fB (.const (.int .u64 0)))] (sq [m 3 0,o 4 (.raw (.nilCheck 3) 0),o 5 (.bM 0 4),o 6 (.raw (.call (.mk (.value (.func 226)) #[5] #[258])) 189),m 2 6] .ret))
def Zqy:List Zf:=[(.aY 2)]
theorem Zwu:aO Tryz.prog 193 1 ZjN Zqy:=bZ [(999999,0)] Tryz.func193
def ZjM:Ze:=(.aI [m 4 0,o 5 (.raw (.nilCheck 4) 0),o 6 (.bM 0 5),m 7 1,o 8 (.raw (.call (.mk (.value (.func 227)) #[6,7] #[258,189])) 0)])
def Zqx:List Zf:=[]
theorem Zwt:aO Tryz.prog 194 2 ZjM Zqx:=bZ [(999999,0)] Tryz.func194
def ZjL:Ze:=(sq [o 2 (.raw (.call (.mk (.value (.func 185)) #[] #[])) 0)] (.seq (sq [m 3 0,o 4 (.raw (.nilCheck 3) 0),o 5 (.bM 0 4),o 6 (.raw (.call (.mk (.value (.func 228)) #[5,(.const (.int .i32 0)),(.const (.int .i32 1))] #[263,21,21])) 4)] (.cond 6 (.seq (.cond k1 (sq [o 7 (.raw (.call (.mk (.value (.func 186)) #[] #[])) 0)] (.aI [m 8 0,o 9 (.raw (.convert 261 226 8) 226),o 10 (.raw (.call (.mk (.value (.func 200)) #[9] #[226])) 0)])) .skip) .ret) .skip)) (.aI [m 11 0,c1 12 229 11])))
def Zqw:List Zf:=[]
theorem Zws:aO Tryz.prog 197 1 ZjL Zqw:=bZ [(999999,0)] Tryz.func197
def ZjK:Ze:=(.seq (.cond k1 (sq [m 3 0,o 4 (.raw (.nilCheck 3) 0),o 5 (.bM 0 4),o 6 (.jA (.load 21 5) 21)] (sq [m 7 0,o 8 (.raw (.convert 261 226 7) 226),o 9 (.raw (.call (.mk (.value (.func 184)) #[8] #[226])) 0)] (.aI [o 10 (.raw (.call (.mk (.value (.func 185)) #[] #[])) 0)]))) .skip) (sq [m 11 0,o 12 (.raw (.nilCheck 11) 0),o 13 (.bM 0 12),o 14 (.raw (.call (.mk (.value (.func 230)) #[13,(.const (.int .i32 (Int.negSucc 0)))] #[263,21])) 21),m 2 14] (.seq (sq [m 15 2,o 16 (.bQ .neq 15 (.const (.int .i32 0)))] (.cond 16 (.aI [m 17 0,m 18 2,c2 19 231 17 18]) .skip)) (.aI [o 20 (.raw (.call (.mk (.value (.func 186)) #[] #[])) 0)]))))
def ZhV:List Zf:=[]
theorem Zwr:aO Tryz.prog 198 1 ZjK ZhV:=bZ [(999999,0)] Tryz.func198
def ZjJ:Ze:=(sq [m0 6] (sq [m 7 0,o 8 (.raw (.nilCheck 7) 0),o 9 (.bM 0 8),m 10 1,m 11 2,o 12 (.raw (.call (.mk (.value (.func 232)) #[9,10,11] #[258,189,189])) 4),m 6 12] .ret))
def Zqv:List Zf:=[(.aY 6)]
theorem Zwq:aO Tryz.prog 202 3 ZjJ Zqv:=bZ [(999999,0)] Tryz.func202
def Zjv:Ze:=(sq [mi 2 0] (sq [m0 3] (sq [m0 4] (sq [mi 5 0] (sq [m 10 0,o 11 (.raw (.nilCheck 10) 0),o 12 (.bM 0 11),o 13 (.jA (.load 21 12) 21),m 6 13] (.seq (.block 0 (.loop (.block 1 (.seq (sq [m 14 6,o 15 (.raw (.binOp .and 21 14 (.const (.int .i32 5)) 21) 21),o 16 (.bQ .eql 15 (.const (.int .i32 1))),m 17 16,mt 17 18 5,gt 17 19 (.raw (.call (.mk (.value (.func 247)) #[18] #[3])) 4),pa 20 17 19] (.cond 20 (.seq (sq [m 21 4,o 22 (.not 21),m 23 22,mt 23 24 6,gt 23 25 (.raw (.binOp .and 21 24 (.const (.int .i32 2)) 21) 21),gt 23 26 (.bQ .eql 25 (.const (.int .i32 0))),pa 27 23 26,m 28 27,mt 28 29 6,gt 28 30 (.raw (.binOp .shr 21 29 (.const (.int .u64 3)) 176) 21),gt 28 31 (.bQ .neq 30 (.const (.int .i32 0))),pa 32 28 31,m 33 32,mt 33 34 0,gt 33 35 (.raw (.nilCheck 34) 0),gt 33 36 (.bM 0 35),mt 33 37 6,mt 33 38 6,gt 33 39 (.raw (.binOp .or 21 38 (.const (.int .i32 2)) 21) 21),gt 33 40 (.raw (.call (.mk (.value (.func 228)) #[36,37,39] #[263,21,21])) 4),pa 41 33 40] (.cond 41 (.aI [m1 4]) .skip)) (sq [o 42 (.raw (.call (.mk (.value (.func 248)) #[] #[])) 0)] (sq [m 43 5,bk 44 .add 43 1,m 5 44] (sq [m 45 0,o 46 (.raw (.nilCheck 45) 0),o 47 (.bM 0 46),o 48 (.jA (.load 21 47) 21),m 6 48] (.exit 1))))) .skip)) (sq [m 49 6,m 7 49] (.seq (sq [m 50 6,o 51 (.raw (.binOp .and 21 50 (.const (.int .i32 4)) 21) 21),o 52 (.bQ .eql 51 (.const (.int .i32 0)))] (.cond 52 (.aI [m 53 7,o 54 (.raw (.binOp .or 21 53 (.const (.int .i32 1)) 21) 21),m 7 54]) .skip)) (.seq (sq [m 55 6,o 56 (.raw (.binOp .and 21 55 (.const (.int .i32 5)) 21) 21),o 57 (.bQ .neq 56 (.const (.int .i32 0)))] (.cond 57 (.aI [m 58 7,o 59 (.bQ .add 58 (.const (.int .i32 8))),m 7 59]) .skip)) (.seq (sq [m 60 3,m 61 60,mt 61 62 6,gt 61 63 (.raw (.binOp .and 21 62 (.const (.int .i32 1)) 21) 21),gt 61 64 (.bQ .neq 63 (.const (.int .i32 0))),pa 65 61 64] (.cond 65 (.aI [m 66 7,o 67 (.raw (.binOp .or 21 66 (.const (.int .i32 4)) 21) 21),m 7 67]) .skip)) (.seq (sq [m 68 4] (.cond 68 (.seq (sq [m 69 7,o 70 (.raw (.binOp .and 21 69 (.const (.int .i32 2)) 21) 21),o 71 (.bQ .eql 70 (.const (.int .i32 0)))] (.cond 71 (.aI [o 72 (.raw (.call (.mk (.value (.func 249)) #[(.const (.string (.mk #[115,121,110,99,58,32,105,110,99,111,110,115,105,115,116,101,110,116,32,109,117,116,101,120,32,115,116,97,116,101])))] #[9])) 0)]) .skip)) (.aI [m 73 7,o 74 (.raw (.binOp .andNot 21 73 (.const (.int .i32 2)) 21) 21),m 7 74])) .skip)) (sq [m 75 0,o 76 (.raw (.nilCheck 75) 0),o 77 (.bM 0 76),m 78 6,m 79 7,o 80 (.raw (.call (.mk (.value (.func 228)) #[77,78,79] #[263,21,21])) 4)] (.cond 80 (.seq (sq [m 81 6,o 82 (.raw (.binOp .and 21 81 (.const (.int .i32 5)) 21) 21),o 83 (.bQ .eql 82 (.const (.int .i32 0)))] (.cond 83 (.exit 0) .skip)) (sq [m 84 2,bk 85 .neq 84 0,m 8 85] (.seq (sq [m 86 2,bk 87 .eql 86 0] (.cond 87 (.aI [o 88 (.raw (.call (.mk (.value (.func 250)) #[] #[])) 2),m 2 88]) .skip)) (sq [m 89 0,o 90 (.raw (.nilCheck 89) 0),o 91 (.bM 1 90),m 92 8,o 93 (.raw (.call (.mk (.value (.func 251)) #[91,92,(k 2)] #[231,4,3])) 0)] (sq [m 94 3,m 95 94,gf 95 96 (.raw (.call (.mk (.value (.func 250)) #[] #[])) 2),mf 95 97 2,gf 95 98 (.raw (.binOp .sub 2 96 97 2) 2),gf 95 99 (.bQ .gtr 98 (k 1000000)),po 100 95 99,m 3 100] (sq [m 101 0,o 102 (.raw (.nilCheck 101) 0),o 103 (.bM 0 102),o 104 (.jA (.load 21 103) 21),m 6 104] (.seq (sq [m 105 6,o 106 (.raw (.binOp .and 21 105 (.const (.int .i32 4)) 21) 21),o 107 (.bQ .neq 106 (.const (.int .i32 0)))] (.cond 107 (.seq (sq [m 108 6,o 109 (.raw (.binOp .and 21 108 (.const (.int .i32 3)) 21) 21),o 110 (.bQ .neq 109 (.const (.int .i32 0))),m 111 110,mf 111 112 6,gf 111 113 (.raw (.binOp .shr 21 112 (.const (.int .u64 3)) 176) 21),gf 111 114 (.bQ .eql 113 (.const (.int .i32 0))),po 115 111 114] (.cond 115 (.aI [o 116 (.raw (.call (.mk (.value (.func 249)) #[(.const (.string (.mk #[115,121,110,99,58,32,105,110,99,111,110,115,105,115,116,101,110,116,32,109,117,116,101,120,32,115,116,97,116,101])))] #[9])) 0)]) .skip)) (sq [o 9 (.fB (.const (.int .i32 (Int.negSucc 6))))] (.seq (sq [m 117 3,o 118 (.not 117),m 119 118,mf 119 120 6,gf 119 121 (.raw (.binOp .shr 21 120 (.const (.int .u64 3)) 176) 21),gf 119 122 (.bQ .eql 121 (.const (.int .i32 1))),po 123 119 122] (.cond 123 (.aI [m 124 9,o 125 (.raw (.binOp .sub 21 124 (.const (.int .i32 4)) 21) 21),m 9 125]) .skip)) (sq [m 126 0,o 127 (.raw (.nilCheck 126) 0),o 128 (.bM 0 127),m 129 9,o 130 (.raw (.call (.mk (.value (.func 230)) #[128,129] #[263,21])) 21)] (.exit 0))))) .skip)) (sq [m1 4] (.aI [mi 5 0]))))))))) (.aI [m 131 0,o 132 (.raw (.nilCheck 131) 0),o 133 (.bM 0 132),o 134 (.jA (.load 21 133) 21),m 6 134])))))))))))) (.cond k1 (sq [o 135 (.raw (.call (.mk (.value (.func 186)) #[] #[])) 0)] (.aI [m 136 0,o 137 (.raw (.convert 261 226 136) 226),o 138 (.raw (.call (.mk (.value (.func 200)) #[137] #[226])) 0)])) .skip)))))))
def Zqh:List Zf:=[]
theorem Zwc:aO Tryz.prog 229 1 Zjv Zqh:=bZ [(999999,0)] Tryz.func229
def Zju:Ze:=(.seq (sq [m 5 1,o 6 (.bQ .add 5 (.const (.int .i32 1))),o 7 (.raw (.binOp .and 21 6 (.const (.int .i32 1)) 21) 21),o 8 (.bQ .eql 7 (.const (.int .i32 0)))] (.cond 8 (.aI [o 9 (.raw (.call (.mk (.value (.func 252)) #[(.const (.string (.mk #[115,121,110,99,58,32,117,110,108,111,99,107,32,111,102,32,117,110,108,111,99,107,101,100,32,109,117,116,101,120])))] #[9])) 0)]) .skip)) (sq [m 10 1,o 11 (.raw (.binOp .and 21 10 (.const (.int .i32 4)) 21) 21),o 12 (.bQ .eql 11 (.const (.int .i32 0)))] (.cond 12 (sq [m 13 1,m 4 13] (.block 0 (.loop (.block 1 (.seq (sq [m 14 4,o 15 (.raw (.binOp .shr 21 14 (.const (.int .u64 3)) 176) 21),o 16 (.bQ .eql 15 (.const (.int .i32 0))),m 17 16,mf 17 18 4,gf 17 19 (.raw (.binOp .and 21 18 (.const (.int .i32 7)) 21) 21),gf 17 20 (.bQ .neq 19 (.const (.int .i32 0))),po 21 17 20] (.cond 21 .ret .skip)) (sq [m 22 4,o 23 (.raw (.binOp .sub 21 22 (.const (.int .i32 8)) 21) 21),o 24 (.raw (.binOp .or 21 23 (.const (.int .i32 2)) 21) 21),m 1 24] (.seq (sq [m 25 0,o 26 (.raw (.nilCheck 25) 0),o 27 (.bM 0 26),m 28 4,m 29 1,o 30 (.raw (.call (.mk (.value (.func 228)) #[27,28,29] #[263,21,21])) 4)] (.cond 30 (sq [m 31 0,o 32 (.raw (.nilCheck 31) 0),o 33 (.bM 1 32),o 34 (.raw (.call (.mk (.value (.func 253)) #[33,k0,(k 2)] #[231,4,3])) 0)] .ret) .skip)) (.aI [m 35 0,o 36 (.raw (.nilCheck 35) 0),o 37 (.bM 0 36),o 38 (.jA (.load 21 37) 21),m 4 38])))))))) (.aI [m 39 0,o 40 (.raw (.nilCheck 39) 0),o 41 (.bM 1 40),o 42 (.raw (.call (.mk (.value (.func 253)) #[41,k1,(k 2)] #[231,4,3])) 0)]))))
def ZhU:List Zf:=[]
theorem Zwb:aO Tryz.prog 231 2 Zju ZhU:=bZ [(999999,0)] Tryz.func231
theorem XC:eT Tryz.prog 184 (Extern.Race.marked .releaseMerge):=⟨Tryz.f184,Tryz.func184,U,U,U,U⟩
theorem UU:eT Tryz.prog 185 (λ_=>do mark .disable;pure Zu):=⟨Tryz.f185,Tryz.func185,U,U,U,U⟩
theorem Yj:eT Tryz.prog 186 (λ_=>do mark .enable;pure Zu):=⟨Tryz.f186,Tryz.func186,U,U,U,U⟩
theorem ZmX:eT Tryz.prog 187 (λ_=>pure (.bool false)):=⟨Tryz.f187,Tryz.func187,U,U,U,U⟩
theorem ZmW:eT Tryz.prog 192 (Extern.Race.marked .read):=⟨Tryz.f192,Tryz.func192,U,U,U,U⟩
theorem ZmV:eT Tryz.prog 196 Extern.Sync.semrelease:=⟨Tryz.f196,Tryz.func196,U,U,U,U⟩
theorem YH:eT Tryz.prog 200 (Extern.Race.marked .acquire):=⟨Tryz.f200,Tryz.func200,U,U,U,U⟩
theorem ZmU:eT Tryz.prog 203 (Extern.Race.marked .write):=⟨Tryz.f203,Tryz.func203,U,U,U,U⟩
theorem ZmT:eT Tryz.prog 204 Extern.Sync.semacquire:=⟨Tryz.f204,Tryz.func204,U,U,U,U⟩
theorem Lo:eT Tryz.prog 225 (Extern.Atomic.update (Op.intArith .add) .u64 true):=⟨Tryz.f225,Tryz.func225,U,U,U,U⟩
theorem XD:eT Tryz.prog 226 (Extern.Atomic.loadT (.int .u64)):=⟨Tryz.f226,Tryz.func226,U,U,U,U⟩
theorem ZmS:eT Tryz.prog 227 Extern.Atomic.storeT:=⟨Tryz.f227,Tryz.func227,U,U,U,U⟩
theorem YG:eT Tryz.prog 228 (Extern.Atomic.casT (.int .i32)):=⟨Tryz.f228,Tryz.func228,U,U,U,U⟩
theorem YX:eT Tryz.prog 230 (Extern.Atomic.update (Op.intArith .add) .i32 true):=⟨Tryz.f230,Tryz.func230,U,U,U,U⟩
theorem ZmR:eT Tryz.prog 232 (Extern.Atomic.casT (.int .u64)):=⟨Tryz.f232,Tryz.func232,U,U,U,U⟩
theorem ZmQ:eT Tryz.prog 247 Extern.Sync.canSpin:=⟨Tryz.f247,Tryz.func247,U,U,U,U⟩
theorem Au:eT Tryz.prog 248 (λ_=>pure Zu):=⟨Tryz.f248,Tryz.func248,U,U,U,U⟩
theorem OR:eT Tryz.prog 250 Extern.OsHooks.nano:=⟨Tryz.f250,Tryz.func250,U,U,U,U⟩
theorem GN:eT Tryz.prog 251 Extern.Sync.semacquire:=⟨Tryz.f251,Tryz.func251,U,U,U,U⟩
theorem Av:eT Tryz.prog 253 Extern.Sync.semrelease:=⟨Tryz.f253,Tryz.func253,U,U,U,U⟩
end
section
variable{t:TypeId}{α:Type}{H':Hp}{a:Addr}{i:Nat}
class Tz (P:bF):Prop where
 prog:P.toProgram=Tryz.prog
theorem cF{P:bF}[Tz P]{f k:Nat}{n:Ze}{r:List Zf}(h:aO Tryz.prog f k n r):aO P.toProgram f k n r:=by rw[Tz.prog (P:=P)];exact h
theorem dC{P:bF}[Tz P]{d:TypeDesc}(h:Tryz.prog.underlying t=some d):P.toProgram.underlying t=some d:=by rw[Tz.prog (P:=P)];exact h
theorem eI{P:bF}[Tz P]{sz:Nat}{z:Value}{b:Nat}(h:Ym Tryz.prog t=some (sz,some z,b)):TI P.toProgram t sz z b:=by rw[Tz.prog (P:=P)];exact ZgV h
theorem E6{P:bF}[Tz P]{n:Option Nat}(h:Ye Tryz.prog t=some n):Ye P.toProgram t=some n:=by rw[Tz.prog (P:=P)];exact h
def Zni(p:Program)(f:FuncId):Bool:=match p.funcs[f]? with | some fn=>fn.body.isSome && !(fn.name == "runtime.NumGoroutine") | none=>false
theorem Yk{P:bF}[Tz P]{f:FuncId}{first cap args:Array Value}{H:Hp}{Post:Value->Hp->Prop}(hb:Zni Tryz.prog f=true)(h:LL.Zc P f (first++args++cap) H Post):ZX P (.func (.func f) first cap) args H Post:=by
 unfold Zni at hb;split at hb
 ·rename_i fn hf;simp only[BY,qAP]at hb;exact ZX.of (by rw[Tz.prog (P:=P)];exact hf) hb.1 hb.2 h
 simp at hb
abbrev vi(n:Int):Value:=.int .i64 n
abbrev vb(b:Bool):Value:=.bool b
abbrev vf(f:Nat):Value:=.func (.func f) #[] #[]
theorem Qj:Tryz.prog.underlying 165=some (.array 3 113):=U
theorem Qc:Ym Tryz.prog 113=some (1,some .nilFunc,8):=U
theorem Kv:Ye Tryz.prog 113=some none:=U
theorem oO:Tryz.prog.underlying 26=some (.slice 3):=U
theorem t3:Ym Tryz.prog 3=some (1,some (vi 0),8):=U
theorem a3:Ye Tryz.prog 3=some none:=U
class Enc (α:Type) where
 sz:Nat
 enc:α->List Value
 len:∀a,(enc a).length=sz
def Zb[Enc α](l:List α):List Value:=l.flatMap Enc.enc
theorem VG{α:Type}[Enc α]:∀l:List α,(Zb l).length=l.length * Enc.sz α
 | []=>by simp[Zb]
 | a :: l=>by have:=VG l;simp only[Zb,qAL,qAc,Enc.len,qAO]at this ⊢;rw[this,qCF];omega
theorem LK{α:Type}[Enc α]:∀(l:List α) (i j:Nat) (hi:i<l.length),j<Enc.sz α->(Zb l)[i * Enc.sz α+j]? = (Enc.enc l[i])[j]?
 | [],i,j,hi,_=>by simp at hi
 | a :: l,0,j,hi,hj=>by simp only[Zb,qAL,qCm,qAu,List.getElem_cons_zero];rw[qAN (by rw[Enc.len];exact hj)]
 | a :: l,i+1,j,hi,hj=>by have:=LK l i j (by simpa using hi) hj;simp only[Zb,qAL,List.getElem_cons_succ]at this ⊢;rw[qBH (by rw[Enc.len,qCF];omega),Enc.len,<-this];congr 1;rw[qCF];omega
def aV[Enc α](H:Hp)(v:Value)(l:List α):Prop:=∃A c,v=.slice A l.length c/\(l≠[]->∃a,A=some a/\aD H a (Zb l))
theorem _root_.Go.LL.aD.sub{H:Hp}{cs:List Value}(h:aD H a cs)(hs:H.Sub H'):aD H' a cs:=by obtain⟨h1,o,p,h2,h3⟩:=h;exact⟨h1,o,p,hs.mem _ _ h2,h3⟩
theorem aV.sub[Enc α]{H:Hp}{v:Value}{l:List α}(h:aV H v l)(hs:H.Sub H'):aV H' v l:=by obtain⟨A,c,h1,h2⟩:=h;refine⟨A,c,h1,λhn=>?_⟩;obtain⟨a,h3,h4⟩:=h2 hn;exact⟨a,h3,h4.sub hs⟩
theorem aV.nil[Enc α](H:Hp):aV H (.slice none 0 0) ([]:List α):=⟨none,0,rfl,λh=>absurd rfl h⟩
theorem LC(a:Addr)(n:Nat):(a.add n).off=a.off+n:=by
 unfold Addr.add;split
 ·subst n;rfl
 rfl
theorem LB(a:Addr)(n:Nat):(a.add n).block=a.block:=by unfold Addr.add;split<;>rfl
theorem W4(h:a.spot=none)(n:Nat):(a.add n).spot=none:=by
 unfold Addr.add;split
 ·exact h
 rfl
theorem _root_.Go.LL.aD.row[Enc α]{H:Hp}{l:List α}(h:aD H a (Zb l))(hi:i<l.length):aD H (a.add (i * Enc.sz α)) (Enc.enc l[i]):=by obtain⟨h1,o,p,h2,h3⟩:=h;refine⟨W4 h1 _,o,p,by rw[LB];exact h2,λj hj=>?_⟩;rw[Enc.len]at hj;rw[LC,qCg,h3 _ (by rw[VG];have:(i+1) * Enc.sz α<=l.length * Enc.sz α:=Nat.mul_le_mul_right _ hi;rw[qCF]at this;omega),LK l i j hi hj]
section
variable{P:bF}{d:Option Nat}{next:aN->Hp->Prop}{σ:aN}{H:Hp}{x y:Operand}{v:Value}
theorem Zx[Enc α]{l:List α}{eH:Nat}{k:IntKind}(hs:aV H v l)(e1:σ.get x=some v)(e2:σ.get y=some (.int k (i:Int)))(he:Enc.sz α=eH)(hi:i<l.length)(h:∀a,aD H a (Enc.enc l[i])->next (σ.set d (.pointer (some a))) H):(bC.cJ eH x y).m P d next σ H:=by obtain⟨A,c,rfl,h2⟩:=hs;obtain⟨a,rfl,hc⟩:=h2 (by rintro rfl;simp at hi);subst he;exact OF e1 e2 hi (h _ (hc.row hi))
theorem YD[Enc α]{l:List α}(hs:aV H v l)(e:σ.get x=some v)(h:next (σ.set d (.int .i64 (l.length:Int))) H):(bC.len x).m P d next σ H:=by obtain⟨A,c,rfl,h2⟩:=hs;exact Nr e h
end
instance:Enc Int:=⟨1,λn=>[vi n],λ_=>rfl⟩
instance:Enc Value:=⟨1,λv=>[v],λ_=>rfl⟩
end
open Go.Z
def Zly:Ze:=(sq [o 1 (.cB 1 [1,5,10,16,22,31,37] 0),m0 2] (.seq (sq [f 5 3 1,ln 6 1 5,le 7 6,bk 8 .gtr 7 20,m 9 8,gf 9 10 (.dE 4 1),gf 9 11 (.jM 1 none 10),gf 9 12 (.len 11),gf 9 13 (.bQ .gtr 12 (k 20)),po 14 9 13] (.cond 14 (sq [m1 2] .ret) .skip)) (.seq (sq [mi 3 0] (.block 0 (.loop (.seq (sq [m 15 3,f 16 3 1,ln 17 1 16,le 18 17,b 19 .lss 15 18] (.cond 19 .skip (.exit 0))) (.seq (.block 1 (sq [f 22 3 1,ln 23 1 22,m 24 3,ia 25 5 23 24,o 26 (.bM 0 25),ld 27 26,o 28 (.raw (.call (.mk (.builtin .len) #[27] #[9])) 3),bk 29 .gtr 28 100] (.cond 29 (sq [m1 2] .ret) .skip))) (.aI [m 20 3,bk 21 .add 20 1,m 3 21])))))) (.seq (sq [mi 4 0] (.block 2 (.loop (.seq (sq [m 30 4,f 31 4 1,ln 32 1 31,le 33 32,b 34 .lss 30 33] (.cond 34 .skip (.exit 2))) (.seq (.block 3 (sq [f 37 4 1,ln 38 1 37,m 39 4,ia 40 3 38 39,o 41 (.bM 0 40),ld 42 41,le 43 42,bk 44 .gtr 43 20] (.cond 44 (sq [m1 2] .ret) .skip))) (.aI [m 35 4,bk 36 .add 35 1,m 4 36])))))) (sq [m0 2] .ret)))))
def Zsp:List Zf:=[(.aY 2)]
theorem Zyf:aO Tryz.prog 17 1 Zly Zsp:=bZ [(1,1),(5,1),(10,1),(16,1),(22,1),(31,1),(37,1)] Tryz.func17
def Zlq:Ze:=(sq [o 1 (.cB 1 [1] 0),o 2 (.fB (.const s0)),o 3 (.bE 3 [3] [z0,z0]),m0 4,mi 5 0] (sq [l 10 1 5 1,o 11 (.call 85 [10,(.func 101)]),m 9 11,x 12 9 0,x 13 9 1,o 6 (.bE 6 [6] [z0,z0,z0,s0,s0,s0]),ls 6 6 6 12,m 5 13] (.seq (sq [m 14 5,bk 15 .neq 14 0] (.cond 15 (sq [o 16 (.build [z0,z0] []),m 17 5,o 2 (.fB (.const s0)),ls 3 2 3 16,m0 4,m 5 17] .ret) .skip)) (sq [l 18 6 6 6,c1 19 102 18,m 7 19] (.seq (sq [m 20 7,le 21 20,bk 22 .eql 21 0] (.cond 22 (sq [o 23 (.build [z0,z0] []),o 2 (.fB (.const s0)),ls 3 2 3 23,m0 4,mi 5 0] .ret) .skip)) (sq [o 24 (.build [.nilFunc] [(0,(1,(.func 105)))]),m 25 7,c2 26 104 24 25,o 8 (.bE 8 [8,27,29] [s0,z0,z0,z0,z0,z0,z0,z0]),ls 8 8 8 26] (.seq (.drawn [f 27 0 8,ln 28 8 27,f 29 1 8,l 30 8 2 29,m 2 28,ls 3 2 3 30,m1 4,mi 5 0]) .ret)))))))
def Zsh:List Zf:=[(.aY 2),(.oN 3 3 (some 2)),(.aY 4),(.aY 5)]
theorem Zx7:aO Tryz.prog 32 1 Zlq Zsh:=bZ [(1,1),(3,3),(6,6),(8,8),(27,8),(29,8)] Tryz.func32
def Zli:Ze:=(sq [m0 4] (.seq (sq [m 6 0,le 7 6,m 8 1,le 9 8,b 10 .neq 7 9] (.cond 10 (sq [m0 4] .ret) .skip)) (.seq (sq [mi 5 0] (.block 0 (.loop (.seq (sq [m 11 5,m 12 0,le 13 12,b 14 .lss 11 13] (.cond 14 .skip (.exit 0))) (.seq (.block 1 (.seq (.drawn [m 17 0,m 18 5,ia 19 4 17 18,lm 20 4 19,m 21 1,m 22 5,ia 23 4 21 22,lm 24 4 23,o 25 (.dA (.binOp .neq 65 20 24 65) 4)]) (.cond 25 (sq [m0 4] .ret) .skip))) (.aI [m 15 5,bk 16 .add 15 1,m 5 16])))))) (sq [m1 4] .ret))))
def Zr9:List Zf:=[(.aY 4)]
theorem ZxZ:aO Tryz.prog 52 2 Zli Zr9:=bZ [] Tryz.func52
def Zle:Ze:=(sq [o 1 (.cB 1 [1,7,12,18,23,29,34,40,51] 0),mi 2 0] (.seq (sq [f 7 0 1,ln 8 1 7,o 9 (.call 50 [8,(k 1),(k 3)]),o 10 (.not 9),m 11 10,gf 11 12 (.dE 1 1),gf 11 13 (.jM 1 none 12),gf 11 14 (.call 50 [13,(k 1),(k 3)]),gf 11 15 (.not 14),po 16 11 15,m 17 16,gf 17 18 (.dE 2 1),gf 17 19 (.jM 1 none 18),gf 17 20 (.call 50 [19,(k 0),(k 200)]),gf 17 21 (.not 20),po 22 17 21] (.cond 22 (sq [mi 2 1] .ret) .skip)) (.seq (sq [f 23 3 1,ln 24 1 23,c1 25 126 24,m 3 25] (sq [m 26 3,bk 27 .neq 26 0] (.cond 27 (sq [m 28 3,m 2 28] .ret) .skip))) (.seq (sq [f 29 4 1,ln 30 1 29,le 31 30,bk 32 .gtr 31 3] (.cond 32 (sq [mi 2 2] .ret) .skip)) (.seq (sq [mi 4 0] (.block 0 (.loop (.seq (sq [m 33 4,f 34 4 1,ln 35 1 34,le 36 35,b 37 .lss 33 36] (.cond 37 .skip (.exit 0))) (.seq (.block 1 (sq [f 40 4 1,ln 41 1 40,m 42 4,ia 43 3 41 42,lm 44 3 43,o 5 (.bE 5 [5,45,49,58] [s0,z0,z0]),ls 5 3 5 44] (.seq (sq [f 45 0 5,ln 46 5 45,le 47 46,bk 48 .eql 47 0] (.cond 48 (sq [mi 2 2] .ret) .skip)) (.seq (sq [f 49 0 5,ln 50 5 49,f 51 3 1,ln 52 1 51,le 53 52,c2 54 55 50 53,m 6 54] (sq [m 55 6,bk 56 .neq 55 0] (.cond 56 (sq [m 57 6,m 2 57] .ret) .skip))) (sq [f 58 1 5,l 59 5 2 58,o 60 (.call 125 [59,(k 0),(k 80)]),o 61 (.not 60)] (.cond 61 (sq [mi 2 1] .ret) .skip)))))) (.aI [m 38 4,bk 39 .add 38 1,m 4 39])))))) (sq [mi 2 0] .ret))))))
def Zr5:List Zf:=[(.aY 2)]
theorem ZxV:aO Tryz.prog 67 1 Zle Zr5:=bZ [(1,1),(5,5),(7,1),(12,1),(18,1),(23,1),(29,1),(34,1),(40,1),(45,5),(49,5),(51,1),(58,5)] Tryz.func67
def Zk9:Ze:=(sq [o 2 (.fB (.const s0))] (sq [m 3 0,o 4 (.call 136 [(.const s0),3]),m 2 4] .ret))
def Zr0:List Zf:=[(.aY 2)]
theorem ZxQ:aO Tryz.prog 82 1 Zk9 Zr0:=bZ [] Tryz.func82
def Zlz:Ze:=(sq [m 3 0,le 4 3,m 2 4] (.aI [m 5 0,m 6 2,m 7 2,o 8 (.dA (.convert 3 176 7) 176),c1 9 141 8,o 10 (.call 140 [5,(k 0),6,9])]))
def Zsq:List Zf:=[]
theorem Zyg:aO Tryz.prog 87 1 Zlz Zsq:=bZ [] Tryz.func87
def Zk5:Ze:=(sq [o 1 (.raw (.box 26 0) 0),o 2 (.fB (.const .nilFunc))] (sq [o 3 (.raw (.makeFunc (.func 142) #[] #[1]) 113),m 2 3] .ret))
def ZrV:List Zf:=[(.aY 2)]
theorem ZxM:aO Tryz.prog 92 1 Zk5 ZrV:=bZ [] Tryz.func92
def Zk1:Ze:=(sq [o 2 (.cB 2 [2,9] 0),mi 4 0] (.seq (sq [m 5 1] (.block 0 (sq [bk 7 .eql 5 0,m 6 7] (.cond 6 (sq [mi 4 2] .ret) (sq [f 9 5 2,ln 10 2 9,le 11 10,b 12 .eql 5 11,m 8 12] (.cond 8 (sq [mi 4 1] .ret) .skip)))))) (sq [mi 4 0] .ret)))
def ZrR:List Zf:=[(.aY 4)]
theorem ZxI:aO Tryz.prog 97 2 Zk1 ZrR:=bZ [(2,2),(9,2)] Tryz.func97
def ZkZ:Ze:=(sq [o 1 (.raw (.box 110 0) 0),o 2 (.fB (.const s0))] (sq [o 8 (.raw (.makeChan 179 (k 0)) 179),o 3 (.raw (.alloc 179) 0),st 179 3 8 0] (sq [o 4 (.raw (.alloc 186) 0)] (sq [o 5 (.raw (.alloc 193) 0)] (sq [o 6 (.raw (.alloc 130) 0)] (.seq (sq [mi 9 0] (.block 0 (.loop (sq [bk 10 .lss 9 2] (.seq (.cond 10 .skip (.exit 0)) (.seq (.block 1 (sq [o 11 (.call 147 [5,(k 1)])] (.aI [o 12 (.raw (.makeFunc (.func 148) #[] #[5,3,1,4,6]) 1),u (.raw (.go (.mk (.value 12) #[] #[])) 0)]))) (.aI [bk 13 .add 9 1,m 9 13]))))))) (.seq (sq [o 14 (.bM 0 1),lm 15 5 14,o 16 (.raw (.makeFunc (.func 152) #[15] #[]) 195)] (.block 2 (.qQ 16 [17] (.aI [m 7 17]) (.block 3 (.aI [ld 18 3,m 19 7,u (.raw (.send 18 19) 0)]))))) (sq [ld 20 3,u (.raw (.call (.mk (.builtin .close) #[20] #[179])) 0)] (sq [c1 21 153 5] (sq [ld 22 6,o 23 (.call 154 [22,(.func 155)])] (sq [ld 24 6,m 2 24] .ret)))))))))))
def ZrP:List Zf:=[(.aY 2)]
theorem ZxG:aO Tryz.prog 102 1 ZkZ ZrP:=bZ [] Tryz.func102
def ZkV:Ze:=(sq [o 2 (.fB (.const s0))] (.seq (sq [m 3 0,o 4 (.dA (.binOp .eql 22 3 (.const s0) 22) 4)] (.cond 4 (sq [o 2 (.fB (.const s0))] .ret) .skip)) (sq [o 5 (.raw (.buildSlice 22 0 #[]) 22),m 6 0,o 7 (.raw (.call (.mk (.builtin .append) #[5,6] #[22,22])) 22),m 2 7] .ret)))
def ZrL:List Zf:=[(.aY 2)]
theorem ZxC:aO Tryz.prog 107 1 ZkV ZrL:=bZ [] Tryz.func107
def ZkR:Ze:=(sq [o 3 (.cB 3 [3,20,21,64,65,98,99] 0),o 4 (.cB 4 [4,46] 1),o 6 (.fB (.const s0))] (sq [m 17 2,le 18 17,o 19 (.raw (.makeSlice 61 18 18) 61),o 7 (.raw (.alloc 61) 0),st 61 7 19 0] (sq [f 20 0 3,f 21 0 20,ln 22 3 21,o 23 (.raw (.makeSlice 26 22 22) 26),m 8 23] (.seq (sq [m 24 2,le 25 24,mi 26 0] (.block 0 (.loop (sq [b 27 .lss 26 25] (.seq (.cond 27 .skip (.exit 0)) (.seq (.block 1 (sq [ia 28 1 24 26,ld 29 28,m 10 29] (sq [o 30 (.ld (some 1) (.global 1)),m 31 8,c2 32 158 30 31,m 11 32] (.seq (.drawn [ld 33 7,m 34 10,m 35 8,m 36 11,ia 37 1 35 36,ld 38 37,ia 39 4 33 34,o 40 (.bM 0 39),st 3 40 38 0]) (.seq (.drawn [m 41 8,m 42 11,ia 43 1 41 42,ld 44 43,m 45 10,o 46 (.fR 1 4 4 45),ln 47 4 46,b 48 .add 44 47,ia 49 1 41 42,st 3 49 48 0]) (.drawn [ld 50 7,m 51 10,m 52 8,m 53 11,ia 54 1 52 53,ld 55 54,ia 56 4 50 51,o 57 (.bM 1 56),st 3 57 55 0])))))) (.aI [bk 58 .add 26 1,m 26 58]))))))) (sq [m 59 2,c1 60 157 59,m 12 60] (sq [m 61 12,o 62 (.raw (.makeFunc (.func 160) #[] #[7]) 204),c2 63 159 61 62] (sq [f 64 0 3,f 65 1 64,ln 66 3 65,o 67 (.raw (.makeSlice 26 66 66) 26),m 13 67] (.seq (sq [m 68 12,le 69 68,mi 70 0] (.block 2 (.loop (sq [b 71 .lss 70 69] (.seq (.cond 71 .skip (.exit 2)) (.seq (.block 3 (sq [ia 72 1 68 70,ld 73 72,m 15 73] (sq [o 74 (.ld (some 1) (.global 1)),m 75 13,c2 76 158 74 75,m 16 76] (.seq (.drawn [ld 77 7,m 78 15,ld 79 7,m 80 15,ia 81 4 79 80,o 82 (.bM 1 81),ld 83 82,m 84 13,m 85 16,ia 86 1 84 85,ld 87 86,(o 88 (.dA (.call (.mk (.builtin .max) #[83,87] #[3,3])) 3),none),ia 89 4 77 78,o 90 (.bM 2 89),st 3 90 88 0]) (.seq (.drawn [ld 91 7,m 92 15,ld 93 7,m 94 15,ia 95 4 93 94,o 96 (.bM 2 95),ld 97 96,f 98 0 3,f 99 3 98,ln 100 3 99,m 101 15,ia 102 5 100 101,o 103 (.bM 3 102),ld 104 103,b 105 .add 97 104,ia 106 4 91 92,o 107 (.bM 3 106),st 3 107 105 0]) (.aI [m 108 13,m 109 16,ld 110 7,m 111 15,ia 112 4 110 111,o 113 (.bM 3 112),ld 114 113,ia 115 1 108 109,st 3 115 114 0])))))) (.aI [bk 116 .add 70 1,m 70 116]))))))) (sq [ld 117 7,m 6 117] .ret)))))))))
def ZrH:List Zf:=[(.aY 6)]
theorem Zxy:aO Tryz.prog 112 3 ZkR ZrH:=bZ [(3,3),(4,4),(20,3),(21,3),(46,4),(64,3),(65,3),(98,3),(99,3)] Tryz.func112
def ZjI:Ze:=(sq [mi 4 0] (.seq (sq [m 9 0,le 10 9,mi 11 0] (.block 0 (.loop (sq [b 12 .lss 11 10] (.seq (.cond 12 .skip (.exit 0)) (.seq (.block 1 (sq [m 13 11,ia 14 1 9 11,ld 15 14,m 5 13,m 6 15] (.seq (sq [m 16 5,m 17 1,le 18 17,b 19 .geq 16 18] (.cond 19 (sq [mi 4 1] .ret) .skip)) (sq [m 20 1,m 21 5,ia 22 1 20 21,ld 23 22,m 7 23] (sq [m 24 6,m 25 7,c2 26 162 24 25,m 8 26] (sq [m 27 8,bk 28 .neq 27 0] (.cond 28 (sq [m 29 8,m 4 29] .ret) .skip))))))) (.aI [bk 30 .add 11 1,m 11 30]))))))) (.seq (sq [m 31 0,le 32 31,m 33 1,le 34 33,b 35 .lss 32 34] (.cond 35 (sq [o 4 (.fB (.const (.int .i64 (Int.negSucc 0))))] .ret) .skip)) (sq [mi 4 0] .ret))))
def Zqu:List Zf:=[(.aY 4)]
theorem Zwp:aO Tryz.prog 117 2 ZjI Zqu:=bZ [] Tryz.func117
def ZkF:Ze:=(sq [o 2 (.cB 2 [2,5,6] 0),o 3 (.raw (.box 105 1) 0),m0 4] (sq [f 5 0 2,f 6 4 5,ln 7 2 6,o 8 (.raw (.makeFunc (.func 170) #[] #[3]) 211),c2 9 169 7 8,o 10 (.not 9),m 4 10] .ret))
def Zrv:List Zf:=[(.aY 4)]
theorem Zxm:aO Tryz.prog 132 2 ZkF Zrv:=bZ [(2,2),(5,2),(6,2)] Tryz.func132
def Nh:Ze:=(sq [o 5 (.cB 5 [5,46] 0),m0 7] (.seq (sq [m 9 1,o 10 (.bM 0 2),o 11 (.bM 3 10),ld 12 11,le 13 12,b 14 .eql 9 13] (.cond 14 (sq [lm 15 5 2,l 16 5 4 5,c2 17 132 15 16,o 18 (.not 17),m 19 18,gf 19 20 (.ld none 3),gf 19 21 (.jM 5 (some 4) 5),gf 19 22 (.raw (.call (.mk (.value 20) #[21] #[105])) 4),po 23 19 22,m 7 23] .ret) .skip)) (.seq (sq [o 24 (.bM 0 2),o 25 (.bM 3 24),ld 26 25,m 27 1,ia 28 5 26 27,o 29 (.bM 1 28),o 30 (.bM 0 29),ld 31 30,m 8 31] (.block 0 (.loop (.seq (sq [m 32 8,o 33 (.bM 0 2),o 34 (.bM 3 33),ld 35 34,m 36 1,ia 37 5 35 36,o 38 (.bM 1 37),o 39 (.bM 1 38),ld 40 39,b 41 .leq 32 40] (.cond 41 .skip (.exit 0))) (.seq (.block 1 (sq [m 44 1,m 45 8,o 46 (.fR 1 4 5 44),ls 5 1 46 45] (sq [ld 47 4,l 48 5 4 5,m 49 1,bk 50 .add 49 1,o 51 (.raw (.call (.mk (.value 47) #[48,50] #[105,3])) 4),o 52 (.not 51)] (.cond 52 (sq [m0 7] .ret) .skip)))) (.aI [m 42 8,bk 43 .add 42 1,m 8 43])))))) (sq [m1 7] .ret))))
def Zrt:List Zf:=[(.aY 7)]
theorem Zng:aO Tryz.prog 137 5 Nh Zrt:=bZ [(5,5),(46,5)] Tryz.func137
def ZkA:Ze:=(sq [o 2 (.cB 2 [2] 0),mi 3 0] (sq [l 4 2 5 2,ld 5 1,c2 6 96 4 5,m 3 6] .ret))
def Zrp:List Zf:=[(.aY 3)]
theorem Zxh:aO Tryz.prog 142 2 ZkA Zrp:=bZ [(2,2)] Tryz.func142
def Zkw:Ze:=(sq [u (.raw (.defer (.mk (.value (.func 149)) #[0] #[193])) 0)] (sq [ld 7 1] (.block 0 (.loop (sq [o 8 (.raw (.recv 179 7 true) 0),x 9 8 1] (.seq (.cond 9 .skip (.exit 0)) (.block 1 (sq [x 10 8 0,m 5 10] (sq [lm 11 6 2,m 12 5,c2 13 93 11 12,o 6 (.bE 6 [6,15] [s0,z0,z0,z0,z0,z0,z0,z0]),ls 6 8 6 13] (sq [lm 14 6 2,f 15 3 6,ln 16 6 15,c2 17 97 14 16,bk 18 .eql 17 1] (.cond 18 (sq [c1 19 150 3] (sq [ld 20 4,l 21 6 8 6,o 22 (.bL 122 1 [s0,z0,z0,z0,z0,z0,z0,z0] [(0,(8,21))]),o 23 (.raw (.call (.mk (.builtin .append) #[20,22] #[130,130])) 130),st 130 4 23 0] (.aI [c1 24 151 3]))) .skip)))))))))))
def Zrl:List Zf:=[]
theorem Zxd:aO Tryz.prog 148 5 Zkw Zrl:=bZ [(6,6),(15,6)] Tryz.func148
def ZjG:Ze:=(sq [o 2 (.fB (.const s0))] (.seq (sq [m 3 0,o 4 (.dA (.binOp .eql 26 3 (.const s0) 26) 4)] (.cond 4 (sq [o 2 (.fB (.const s0))] .ret) .skip)) (sq [o 5 (.raw (.buildSlice 26 0 #[]) 26),m 6 0,o 7 (.raw (.call (.mk (.builtin .append) #[5,6] #[26,26])) 26),m 2 7] .ret)))
def Zqs:List Zf:=[(.aY 2)]
theorem Zwn:aO Tryz.prog 157 1 ZjG Zqs:=bZ [] Tryz.func157
def Zjt:Ze:=(sq [mi 4 0] (sq [m 7 0,c1 8 215 7,m 5 8] (sq [m 9 1,c1 10 215 9,m 6 10] (.seq (sq [m 11 5] (.cond 11 (.seq (sq [m 12 6] (.cond 12 (sq [mi 4 0] .ret) .skip)) (sq [o 4 (.fB (.const (.int .i64 (Int.negSucc 0))))] .ret)) .skip)) (.seq (sq [m 13 6] (.cond 13 (sq [mi 4 1] .ret) .skip)) (.seq (sq [m 14 0,m 15 1,b 16 .lss 14 15] (.cond 16 (sq [o 4 (.fB (.const (.int .i64 (Int.negSucc 0))))] .ret) .skip)) (.seq (sq [m 17 0,m 18 1,b 19 .gtr 17 18] (.cond 19 (sq [mi 4 1] .ret) .skip)) (sq [mi 4 0] .ret))))))))
def Zqg:List Zf:=[(.aY 4)]
theorem Zwa:aO Tryz.prog 162 2 Zjt Zqg:=bZ [] Tryz.func162
def Zkl:Ze:=(sq [m0 2] (sq [m 3 0,o 4 (.call 168 [3,(k 1),(k 20)]),o 5 (.not 4),m 2 5] .ret))
def Zq9:List Zf:=[(.aY 2)]
theorem Zw2:aO Tryz.prog 167 1 Zkl Zq9:=bZ [] Tryz.func167
def ZjE:Ze:=(sq [m 11 1,m 6 11] (sq [mi 7 0] (sq [m 12 2,m 13 1,b 14 .sub 12 13,m 8 14] (.seq (sq [m 15 8,bk 16 .sub 15 1,o 17 (.dA (.binOp .quo 3 16 (k 2) 3) 3),m 9 17] (.block 0 (.loop (.seq (sq [m 18 9,bk 19 .geq 18 0] (.cond 19 .skip (.exit 0))) (.seq (.block 1 (.aI [m 22 0,m 23 9,m 24 8,m 25 6,o 26 (.call 219 [22,23,24,25])])) (.aI [m 20 9,bk 21 .sub 20 1,m 9 21])))))) (sq [m 27 8,bk 28 .sub 27 1,m 10 28] (.block 2 (.loop (.seq (sq [m 29 10,bk 30 .geq 29 0] (.cond 30 .skip (.exit 2))) (.seq (.block 3 (.seq (.drawn [m 33 0,m 34 6,m 35 0,m 36 6,m 37 10,b 38 .add 36 37,m 39 0,m 40 6,m 41 10,b 42 .add 40 41,ia 43 1 39 42,ld 44 43,m 45 0,m 46 6,ia 47 1 45 46,ld 48 47,ia 49 1 33 34,(st 3 49 44 0,(some false)),ia 50 1 35 38,st 3 50 48 0]) (.aI [m 51 0,m 52 7,m 53 10,m 54 6,o 55 (.call 219 [51,52,53,54])]))) (.aI [m 31 10,bk 32 .sub 31 1,m 10 32]))))))))))
def Zqq:List Zf:=[]
theorem Zwl:aO Tryz.prog 172 3 ZjE Zqq:=bZ [] Tryz.func172
def Zjz:Ze:=(sq [m0 4] (sq [m 5 0,c1 6 215 5,m 7 6,mt 7 8 1,gt 7 9 (.call 215 [8]),gt 7 10 (.not 9),pa 11 7 10,m 12 11,mf 12 13 0,mf 12 14 1,gf 12 15 (.bQ .lss 13 14),po 16 12 15,m 4 16] .ret))
def Zql:List Zf:=[(.aY 4)]
theorem Zwg:aO Tryz.prog 177 2 Zjz Zql:=bZ [] Tryz.func177
def Zkh:Ze:=(sq [o 2 (.bE 2 [2] [(.bool false),(.bool false),(.bool false),(.bool false),z0])] (sq [m 3 0,o 4 (.build [(.bool false),(.bool false),(.bool false),(.bool false),z0] [(4,(1,3))]),ls 2 5 2 4] .ret))
def Zq5:List Zf:=[(.oN 2 2 (some 5))]
theorem ZwY:aO Tryz.prog 182 1 Zkh Zq5:=bZ [(2,2)] Tryz.func182
def Zkf:Ze:=(sq [mi 6 20] (sq [m 10 6,mi 7 0,m 8 10] (.seq (.block 0 (.loop (.seq (sq [m 11 8,m 12 1,b 13 .leq 11 12] (.cond 13 .skip (.exit 0))) (.block 1 (sq [m 14 0,m 15 7,m 16 8,m 17 2,o 18 (.call 241 [14,15,16,17])] (sq [m 19 8,m 7 19] (.aI [m 20 8,m 21 6,b 22 .add 20 21,m 8 22]))))))) (sq [m 23 0,m 24 7,m 25 1,m 26 2,o 27 (.call 241 [23,24,25,26])] (.block 2 (.loop (.seq (sq [m 28 6,m 29 1,b 30 .lss 28 29] (.cond 30 .skip (.exit 2))) (.block 3 (sq [m 31 6,o 32 (.bQ .mul (k 2) 31),mi 7 0,m 8 32] (.seq (.block 4 (.loop (.seq (sq [m 33 8,m 34 1,b 35 .leq 33 34] (.cond 35 .skip (.exit 4))) (.block 5 (sq [m 36 0,m 37 7,m 38 7,m 39 6,b 40 .add 38 39,m 41 8,m 42 2,o 43 (.call 242 [36,37,40,41,42])] (sq [m 44 8,m 7 44] (.aI [m 45 8,m 46 6,o 47 (.bQ .mul (k 2) 46),b 48 .add 45 47,m 8 48]))))))) (.seq (sq [m 49 7,m 50 6,b 51 .add 49 50,m 9 51] (sq [m 52 9,m 53 1,b 54 .lss 52 53] (.cond 54 (.aI [m 55 0,m 56 7,m 57 9,m 58 1,m 59 2,o 60 (.call 242 [55,56,57,58,59])]) .skip))) (.aI [m 61 6,bk 62 .mul 61 2,m 6 62]))))))))))))
def Zq1:List Zf:=[]
theorem ZwW:aO Tryz.prog 206 3 Zkf Zq1:=bZ [] Tryz.func206
def Zkd:Ze:=(sq [m0 2] (sq [m 3 0,o 4 (.bQ .geq 3 (.const (.int .u8 48))),m 5 4,mt 5 6 0,gt 5 7 (.bQ .leq 6 (.const (.int .u8 57))),pa 8 5 7,m 2 8] .ret))
def ZqZ:List Zf:=[(.aY 2)]
theorem ZwU:aO Tryz.prog 216 1 Zkd ZqZ:=bZ [] Tryz.func216
def Zjp:Ze:=(sq [o 2 (.fB (.const (.int .u64 0)))] (.seq (.drawn [m 3 0,o 4 (.dA (.nilCheck 3) 0),ld 5 4,m 6 0,o 7 (.dA (.nilCheck 6) 0),ld 8 7,(o 9 (.dA (.binOp .shl 251 8 (.const (.int .u64 13)) 176) 251),none),o 10 (.dA (.binOp .xor 251 5 9 251) 251),o 11 (.dA (.nilCheck 3) 0),st 251 11 10 0]) (.seq (.drawn [m 12 0,o 13 (.dA (.nilCheck 12) 0),ld 14 13,m 15 0,o 16 (.dA (.nilCheck 15) 0),ld 17 16,(o 18 (.dA (.binOp .shr 251 17 (.const (.int .u64 7)) 176) 251),none),o 19 (.dA (.binOp .xor 251 14 18 251) 251),o 20 (.dA (.nilCheck 12) 0),st 251 20 19 0]) (.seq (.drawn [m 21 0,o 22 (.dA (.nilCheck 21) 0),ld 23 22,m 24 0,o 25 (.dA (.nilCheck 24) 0),ld 26 25,(o 27 (.dA (.binOp .shl 251 26 (.const (.int .u64 17)) 176) 251),none),o 28 (.dA (.binOp .xor 251 23 27 251) 251),o 29 (.dA (.nilCheck 21) 0),st 251 29 28 0]) (sq [m 30 0,o 31 (.dA (.nilCheck 30) 0),ld 32 31,m 2 32] .ret)))))
def Zqc:List Zf:=[(.aY 2)]
theorem Zv6:aO Tryz.prog 221 1 Zjp Zqc:=bZ [] Tryz.func221
def Zka:Ze:=(sq [m 13 2,m 14 1,b 15 .sub 13 14,m 8 15] (sq [m 16 8,bk 17 .geq 16 8] (.cond 17 (sq [m 18 8,o 19 (.dA (.convert 3 251 18) 251),o 9 (.raw (.alloc 251) 0),st 251 9 19 0] (sq [m 20 8,c1 21 220 20,m 10 21] (sq [m 22 1,m 23 8,o 24 (.dA (.binOp .quo 3 23 (k 4) 3) 3),bk 25 .mul 24 2,b 26 .add 22 25,bk 27 .sub 26 1,m 11 27] (.block 0 (.loop (.seq (sq [m 28 11,m 29 1,m 30 8,o 31 (.dA (.binOp .quo 3 30 (k 4) 3) 3),bk 32 .mul 31 2,b 33 .add 29 32,bk 34 .add 33 1,b 35 .leq 28 34] (.cond 35 .skip (.exit 0))) (.seq (.block 1 (sq [c1 38 221 9,m 39 10,o 40 (.bQ .sub 39 (.const (.int .u64 1))),o 41 (.dA (.binOp .and 176 38 40 176) 176),o 42 (.dA (.convert 176 3 41) 3),m 12 42] (.seq (sq [m 43 12,m 44 8,b 45 .geq 43 44] (.cond 45 (.aI [m 46 12,m 47 8,b 48 .sub 46 47,m 12 48]) .skip)) (.drawn [m 49 0,m 50 11,m 51 0,m 52 1,m 53 12,b 54 .add 52 53,m 55 0,m 56 1,m 57 12,b 58 .add 56 57,ia 59 8 55 58,lm 60 8 59,m 61 0,m 62 11,ia 63 8 61 62,lm 64 8 63,ia 65 8 49 50,(st 122 65 60 0,(some false)),ia 66 8 51 54,st 122 66 64 0])))) (.aI [m 36 11,bk 37 .add 36 1,m 11 37])))))))) .skip)))
def ZqV:List Zf:=[]
theorem ZwR:aO Tryz.prog 235 4 Zka ZqV:=bZ [] Tryz.func235
def Zj5:Ze:=(sq [mi 10 0,m0 11] (.seq (.drawn [m 14 0,m 15 1,m 16 0,m 17 3,m 18 0,m 19 3,ia 20 8 18 19,lm 21 8 20,m 22 0,m 23 1,ia 24 8 22 23,lm 25 8 24,ia 26 8 14 15,(st 122 26 21 0,(some false)),ia 27 8 16 17,st 122 27 25 0]) (sq [m 28 1,bk 29 .add 28 1,m 30 2,bk 31 .sub 30 1,m 12 29,m 13 31] (.seq (.block 0 (.loop (.seq (.seq (.drawn [m 32 12,m 33 13,b 34 .leq 32 33,m 35 34,mt 35 36 4,mt 35 37 0,mt 35 38 12,gt 35 39 (.cJ 8 37 38),gt 35 40 (.ld (some 8) 39),mt 35 41 0,mt 35 42 1,gt 35 43 (.cJ 8 41 42),gt 35 44 (.ld (some 8) 43),(gt 35 45 (.raw (.call (.mk (.value 36) #[40,44] #[122,122])) 3),none),gt 35 46 (.bQ .lss 45 (k 0)),pa 47 35 46]) (.cond 47 .skip (.exit 0))) (.block 1 (.aI [m 48 12,bk 49 .add 48 1,m 12 49]))))) (.seq (.block 2 (.loop (.seq (.seq (.drawn [m 50 12,m 51 13,b 52 .leq 50 51,m 53 52,mt 53 54 4,mt 53 55 0,mt 53 56 13,gt 53 57 (.cJ 8 55 56),gt 53 58 (.ld (some 8) 57),mt 53 59 0,mt 53 60 1,gt 53 61 (.cJ 8 59 60),gt 53 62 (.ld (some 8) 61),(gt 53 63 (.raw (.call (.mk (.value 54) #[58,62] #[122,122])) 3),none),gt 53 64 (.bQ .lss 63 (k 0)),gt 53 65 (.not 64),pa 66 53 65]) (.cond 66 .skip (.exit 2))) (.block 3 (.aI [m 67 13,bk 68 .sub 67 1,m 13 68]))))) (.seq (sq [m 69 12,m 70 13,b 71 .gtr 69 70] (.cond 71 (.seq (.drawn [m 72 0,m 73 13,m 74 0,m 75 1,m 76 0,m 77 1,ia 78 8 76 77,lm 79 8 78,m 80 0,m 81 13,ia 82 8 80 81,lm 83 8 82,ia 84 8 72 73,(st 122 84 79 0,(some false)),ia 85 8 74 75,st 122 85 83 0]) (sq [m 86 13,m 10 86,m1 11] .ret)) .skip)) (.seq (.drawn [m 87 0,m 88 12,m 89 0,m 90 13,m 91 0,m 92 13,ia 93 8 91 92,lm 94 8 93,m 95 0,m 96 12,ia 97 8 95 96,lm 98 8 97,ia 99 8 87 88,(st 122 99 94 0,(some false)),ia 100 8 89 90,st 122 100 98 0]) (sq [m 101 12,bk 102 .add 101 1,m 12 102] (sq [m 103 13,bk 104 .sub 103 1,m 13 104] (.seq (.block 4 (.loop (.block 5 (.seq (.block 6 (.loop (.seq (.seq (.drawn [m 105 12,m 106 13,b 107 .leq 105 106,m 108 107,mt 108 109 4,mt 108 110 0,mt 108 111 12,gt 108 112 (.cJ 8 110 111),gt 108 113 (.ld (some 8) 112),mt 108 114 0,mt 108 115 1,gt 108 116 (.cJ 8 114 115),gt 108 117 (.ld (some 8) 116),(gt 108 118 (.raw (.call (.mk (.value 109) #[113,117] #[122,122])) 3),none),gt 108 119 (.bQ .lss 118 (k 0)),pa 120 108 119]) (.cond 120 .skip (.exit 6))) (.block 7 (.aI [m 121 12,bk 122 .add 121 1,m 12 122]))))) (.seq (.block 8 (.loop (.seq (.seq (.drawn [m 123 12,m 124 13,b 125 .leq 123 124,m 126 125,mt 126 127 4,mt 126 128 0,mt 126 129 13,gt 126 130 (.cJ 8 128 129),gt 126 131 (.ld (some 8) 130),mt 126 132 0,mt 126 133 1,gt 126 134 (.cJ 8 132 133),gt 126 135 (.ld (some 8) 134),(gt 126 136 (.raw (.call (.mk (.value 127) #[131,135] #[122,122])) 3),none),gt 126 137 (.bQ .lss 136 (k 0)),gt 126 138 (.not 137),pa 139 126 138]) (.cond 139 .skip (.exit 8))) (.block 9 (.aI [m 140 13,bk 141 .sub 140 1,m 13 141]))))) (.seq (sq [m 142 12,m 143 13,b 144 .gtr 142 143] (.cond 144 (.exit 4) .skip)) (.seq (.drawn [m 145 0,m 146 12,m 147 0,m 148 13,m 149 0,m 150 13,ia 151 8 149 150,lm 152 8 151,m 153 0,m 154 12,ia 155 8 153 154,lm 156 8 155,ia 157 8 145 146,(st 122 157 152 0,(some false)),ia 158 8 147 148,st 122 158 156 0]) (sq [m 159 12,bk 160 .add 159 1,m 12 160] (.aI [m 161 13,bk 162 .sub 161 1,m 13 162]))))))))) (.seq (.drawn [m 163 0,m 164 13,m 165 0,m 166 1,m 167 0,m 168 1,ia 169 8 167 168,lm 170 8 169,m 171 0,m 172 13,ia 173 8 171 172,lm 174 8 173,ia 175 8 163 164,(st 122 175 170 0,(some false)),ia 176 8 165 166,st 122 176 174 0]) (sq [m 177 13,m 10 177,m0 11] .ret))))))))))))
def ZqQ:List Zf:=[(.aY 10),(.aY 11)]
theorem ZwM:aO Tryz.prog 240 5 Zj5 ZqQ:=bZ [] Tryz.func240
def ZjY:Ze:=(sq [o 1 (.cB 1 [1,5,6,11,12,26,27] 0),mi 2 0] (.seq (sq [f 5 0 1,f 6 3 5,ln 7 1 6,le 8 7,o 9 (.call 168 [8,(k 1),(k 4)]),o 10 (.not 9)] (.cond 10 (sq [mi 2 2] .ret) .skip)) (.seq (sq [f 11 0 1,f 12 3 11,ln 13 1 12,le 14 13,mi 15 0] (.block 0 (.loop (sq [b 16 .lss 15 14] (.seq (.cond 16 .skip (.exit 0)) (.seq (.block 1 (sq [m 17 15,ia 18 5 13 15,lm 19 5 18,o 4 (.raw (.alloc 50) 0),m 3 17,st 50 4 19 0] (.block 2 (sq [o 21 (.bM 0 4),ld 22 21,c1 23 280 22,o 24 (.not 23),m 20 24] (.cond 20 (sq [mi 2 4] .ret) (sq [f 26 0 1,f 27 3 26,ln 28 1 27,m 29 3,o 30 (.dA (.slice 22 28 none (some 29) none) 22),o 31 (.raw (.makeFunc (.func 282) #[] #[4]) 301),c2 32 281 30 31,m 25 32] (.cond 25 (sq [mi 2 5] .ret) (sq [o 34 (.bM 1 4),lm 35 2 34,o 36 (.call 106 [35,(k 1),(k 20)]),o 37 (.not 36),m 38 37,gf 38 39 (.bM 1 4),gf 38 40 (.bM 1 39),gf 38 41 (.ld none 40),gf 38 42 (.bM 1 4),gf 38 43 (.bM 0 42),gf 38 44 (.ld none 43),gf 38 45 (.bQ .sub 41 44),gf 38 46 (.bQ .geq 45 (k 3)),po 47 38 46,m 48 47,gf 48 49 (.bM 3 4),gf 48 50 (.ld none 49),gf 48 51 (.call 168 [50,(k 1),(k 20)]),gf 48 52 (.not 51),po 53 48 52,m 54 53,gf 54 55 (.bM 4 4),gf 54 56 (.ld none 55),gf 54 57 (.call 168 [56,(k 1),(k 20)]),gf 54 58 (.not 57),po 59 54 58,m 33 59] (.cond 33 (sq [mi 2 1] .ret) .skip))))))))) (.aI [bk 60 .add 15 1,m 15 60]))))))) (sq [mi 2 0] .ret))))
def ZqJ:List Zf:=[(.aY 2)]
theorem ZwF:aO Tryz.prog 278 1 ZjY ZqJ:=bZ [(1,1),(5,1),(6,1),(11,1),(12,1),(26,1),(27,1)] Tryz.func278
def ZjT:Ze:=(sq [mi 4 0] (.seq (sq [m 6 0,le 7 6,mi 8 0] (.block 0 (.loop (sq [b 9 .lss 8 7] (.seq (.cond 9 .skip (.exit 0)) (.seq (.block 1 (sq [m 10 8,m 5 10] (sq [m 11 1,m 12 0,m 13 5,ia 14 5 12 13,lm 15 5 14,o 16 (.raw (.call (.mk (.value 11) #[15] #[50])) 4)] (.cond 16 (sq [m 17 5,m 4 17] .ret) .skip)))) (.aI [bk 18 .add 8 1,m 8 18]))))))) (sq [o 4 (.fB (.const (.int .i64 (Int.negSucc 0))))] .ret)))
def ZqE:List Zf:=[(.aY 4)]
theorem ZwA:aO Tryz.prog 283 2 ZjT ZqE:=bZ [] Tryz.func283
