import Derived.Test.YtlhomfgcibjccaaGreatDoorP06
import Derived.Test.YtlhomfgcibjccaaGreatDoorP07
import Derived.Test.YtlhomfgcibjccaaGreatDoorP16
import Derived.KernelRfl
import Derived.Test.YtlhomfgcibjccaaGreatDoorProg
set_option linter.all false
section
open Go Go.LL
namespace Go.Z
instance (n:Nat):OfNat Operand n:=⟨.tmp n⟩
instance:Coe NI (NI×Option Bool):=⟨λx=>(x,none)⟩
abbrev k(n:Int):Operand:=.const (.int .i64 n)
abbrev k0:Operand:=.const (.bool false)
abbrev k1:Operand:=.const (.bool true)
abbrev z0:Value:=.int .i64 0
abbrev s0:Value:=.slice none 0 0
abbrev o(d:Nat)(x:bE):NI:=⟨none,some d,x⟩
abbrev u(x:bE):NI:=⟨none,none,x⟩
abbrev gf(g d:Nat)(x:bE):NI:=⟨some (g,false),some d,x⟩
abbrev gt(g d:Nat)(x:bE):NI:=⟨some (g,true),some d,x⟩
abbrev m(d a:Nat):NI:=⟨none,some d,.cY (.tmp a)⟩
abbrev mf(g d a:Nat):NI:=⟨some (g,false),some d,.cY (.tmp a)⟩
abbrev mt(g d a:Nat):NI:=⟨some (g,true),some d,.cY (.tmp a)⟩
abbrev mi(d:Nat)(n:Int):NI:=⟨none,some d,.cY (.const (.int .i64 n))⟩
abbrev m0(d:Nat):NI:=⟨none,some d,.cY (.const (.bool false))⟩
abbrev m1(d:Nat):NI:=⟨none,some d,.cY (.const (.bool true))⟩
abbrev x(d a i:Nat):NI:=⟨none,some d,.ext (.tmp a) i⟩
abbrev l(d a b c:Nat):NI:=⟨none,some d,.dA a (some b) c⟩
abbrev ln(d a b:Nat):NI:=⟨none,some d,.dA a none b⟩
abbrev f(d a b:Nat):NI:=⟨none,some d,.aU a b⟩
abbrev ia(d e a b:Nat):NI:=⟨none,some d,.bQ e (.tmp a) (.tmp b)⟩
abbrev c0(d f:Nat):NI:=⟨none,some d,.call f []⟩
abbrev c1(d f a:Nat):NI:=⟨none,some d,.call f [.tmp a]⟩
abbrev c2(d f a b:Nat):NI:=⟨none,some d,.call f [.tmp a,.tmp b]⟩
abbrev c3(d f a b c:Nat):NI:=⟨none,some d,.call f [.tmp a,.tmp b,.tmp c]⟩
abbrev ls(a b c x:Nat):NI:=⟨none,none,.qU a b c (.tmp x)⟩
abbrev ld(d a:Nat):NI:=⟨none,some d,.ld none (.tmp a)⟩
abbrev lm(d n a:Nat):NI:=⟨none,some d,.ld (some n) (.tmp a)⟩
abbrev le(d a:Nat):NI:=⟨none,some d,.len (.tmp a)⟩
abbrev b(d:Nat)(p:BinOp)(x y:Nat):NI:=⟨none,some d,.aY p (.tmp x) (.tmp y)⟩
abbrev bk(d:Nat)(p:BinOp)(x:Nat)(n:Int):NI:=⟨none,some d,.aY p (.tmp x) (.const (.int .i64 n))⟩
abbrev po(d x y:Nat):NI:=⟨none,some d,.pick (.tmp x) (.const (.bool true)) (.tmp y)⟩
abbrev pa(d x y:Nat):NI:=⟨none,some d,.pick (.tmp x) (.tmp y) (.const (.bool false))⟩
abbrev st(e x y r:Nat):NI:=⟨none,none,.raw (.store e (.tmp x) (.tmp y)) r⟩
abbrev sq(l:List NI)(c:Ze):Ze:=.seq (.aI l) c
end Go.Z
end
section
open Go Go.LL
namespace Go.LL
def bD{P:Program}{f:FuncId}{k:Nat}{n:Ze}{b:List Zf}{fn:Func}(L:List (Nat×Nat))(h:P.funcs[f]? = some fn)(c:fn.body.bind (Z5 P L fn.ntmps ⟨true,fn.norace⟩)=some n:=by kernel_rfl)(e:Oq P L fn.results.toList=some b:=by kernel_rfl)(g:((L.all λp=>decide (k<=p.1)) && decide (k<=fn.ntmps) && (!(tP L) || fn.norace))=true:=by kernel_rfl):aJ P f k n b:=⟨fn,L,h,c,e,g⟩
end Go.LL
end
open Go Go.LL Go Go.LL
namespace Go.Proofs
section
open Go.Z
def Ku:Ze:=(.seq (.cond k1 (.seq (sq [m 9 1,bk 10 .lss 9 0] (.cond 10 (.aI [m 11 0,o 12 (.raw (.convert 224 226 11) 226),o 13 (.raw (.call (.mk (.value (.func 184)) #[12] #[226])) 0)]) .skip)) (sq [o 14 (.raw (.call (.mk (.value (.func 185)) #[] #[])) 0)] (.aI [u (.raw (.defer (.mk (.value (.func 186)) #[] #[])) 0)]))) .skip) (sq [m0 4] (.seq (sq [o 15 (.raw (.call (.mk (.value (.func 187)) #[] #[])) 4)] (.cond 15 (sq [m 16 0,o 17 (.raw (.call (.mk (.value (.func 188)) #[16] #[224])) 227)] (.block 0 (sq [bk 19 .eql 17 0,m 18 19] (.cond 18 .skip (sq [bk 21 .eql 17 2,m 20 21] (.cond 20 (.aI [o 22 (.raw (.call (.mk (.value (.func 189)) #[(.const (.string (.mk #[115,121,110,99,58,32,87,97,105,116,71,114,111,117,112,46,65,100,100,32,99,97,108,108,101,100,32,102,114,111,109,32,109,117,108,116,105,112,108,101,32,115,121,110,99,116,101,115,116,32,98,117,98,98,108,101,115])))] #[9])) 0)]) (sq [bk 24 .eql 17 1,m 23 24] (.cond 23 (sq [m1 4] (sq [m 25 0,o 26 (.raw (.nilCheck 25) 0),o 27 (.aN 0 26),o 28 (.call 190 [27,(.const (.int .u64 2147483648))]),m 5 28] (sq [m 29 5,o 30 (.aY .neq 29 (.const (.int .u64 0))),m 31 30,mt 31 32 5,gt 31 33 (.raw (.binOp .and 189 32 (.const (.int .u64 2147483648)) 189) 189),gt 31 34 (.aY .eql 33 (.const (.int .u64 0))),pa 35 31 34] (.cond 35 (.aI [o 36 (.raw (.call (.mk (.value (.func 189)) #[(.const (.string (.mk #[115,121,110,99,58,32,87,97,105,116,71,114,111,117,112,46,65,100,100,32,99,97,108,108,101,100,32,102,114,111,109,32,105,110,115,105,100,101,32,97,110,100,32,111,117,116,115,105,100,101,32,115,121,110,99,116,101,115,116,32,98,117,98,98,108,101])))] #[9])) 0)]) .skip)))) .skip)))))))) .skip)) (sq [m 37 0,o 38 (.raw (.nilCheck 37) 0),o 39 (.aN 0 38),m 40 1,o 41 (.raw (.convert 3 189 40) 189),o 42 (.raw (.binOp .shl 189 41 (.const (.int .u64 32)) 176) 189),c2 43 191 39 42,m 6 43] (.seq (sq [m 44 6,o 45 (.raw (.binOp .and 189 44 (.const (.int .u64 2147483648)) 189) 189),o 46 (.aY .neq 45 (.const (.int .u64 0))),m 47 46,mt 47 48 4,gt 47 49 (.not 48),pa 50 47 49] (.cond 50 (.aI [o 51 (.raw (.call (.mk (.value (.func 189)) #[(.const (.string (.mk #[115,121,110,99,58,32,87,97,105,116,71,114,111,117,112,46,65,100,100,32,99,97,108,108,101,100,32,102,114,111,109,32,105,110,115,105,100,101,32,97,110,100,32,111,117,116,115,105,100,101,32,115,121,110,99,116,101,115,116,32,98,117,98,98,108,101])))] #[9])) 0)]) .skip)) (sq [m 52 6,o 53 (.raw (.binOp .shr 189 52 (.const (.int .u64 32)) 176) 189),o 54 (.raw (.convert 189 21 53) 21),m 7 54] (sq [m 55 6,o 56 (.raw (.binOp .and 189 55 (.const (.int .u64 2147483647)) 189) 189),o 57 (.raw (.convert 189 182 56) 182),m 8 57] (.seq (sq [m1 58,mt 58 59 1,gt 58 60 (.aY .gtr 59 (k 0)),pa 61 58 60,m 62 61,mt 62 63 7,mt 62 64 1,gt 62 65 (.raw (.convert 3 21 64) 21),gt 62 66 (.aY .eql 63 65),pa 67 62 66] (.cond 67 (.aI [m 68 0,o 69 (.raw (.nilCheck 68) 0),o 70 (.aN 1 69),o 71 (.raw (.convert 231 226 70) 226),o 72 (.raw (.call (.mk (.value (.func 192)) #[71] #[226])) 0)]) .skip)) (.seq (sq [m 73 7,o 74 (.aY .lss 73 (.const (.int .i32 0)))] (.cond 74 (.aI [o 75 (.raw (.makeInterface 9 (.const (.string (.mk #[115,121,110,99,58,32,110,101,103,97,116,105,118,101,32,87,97,105,116,71,114,111,117,112,32,99,111,117,110,116,101,114])))) 20),u (.raw (.panic 75) 0)]) .skip)) (.seq (sq [m 76 8,o 77 (.aY .neq 76 (.const (.int .u32 0))),m 78 77,mt 78 79 1,gt 78 80 (.aY .gtr 79 (k 0)),pa 81 78 80,m 82 81,mt 82 83 7,mt 82 84 1,gt 82 85 (.raw (.convert 3 21 84) 21),gt 82 86 (.aY .eql 83 85),pa 87 82 86] (.cond 87 (.aI [o 88 (.raw (.makeInterface 9 (.const (.string (.mk #[115,121,110,99,58,32,87,97,105,116,71,114,111,117,112,32,109,105,115,117,115,101,58,32,65,100,100,32,99,97,108,108,101,100,32,99,111,110,99,117,114,114,101,110,116,108,121,32,119,105,116,104,32,87,97,105,116])))) 20),u (.raw (.panic 88) 0)]) .skip)) (.seq (sq [m 89 7,o 90 (.aY .gtr 89 (.const (.int .i32 0))),m 91 90,mf 91 92 8,gf 91 93 (.aY .eql 92 (.const (.int .u32 0))),po 94 91 93] (.cond 94 .ret .skip)) (.seq (sq [m 95 0,o 96 (.raw (.nilCheck 95) 0),o 97 (.aN 0 96),c1 98 193 97,m 99 6,b 100 .neq 98 99] (.cond 100 (.aI [o 101 (.raw (.makeInterface 9 (.const (.string (.mk #[115,121,110,99,58,32,87,97,105,116,71,114,111,117,112,32,109,105,115,117,115,101,58,32,65,100,100,32,99,97,108,108,101,100,32,99,111,110,99,117,114,114,101,110,116,108,121,32,119,105,116,104,32,87,97,105,116])))) 20),u (.raw (.panic 101) 0)]) .skip)) (sq [m 102 0,o 103 (.raw (.nilCheck 102) 0),o 104 (.aN 0 103),o 105 (.call 194 [104,(.const (.int .u64 0))])] (.seq (sq [m 106 4] (.cond 106 (.aI [m 107 0,o 108 (.raw (.call (.mk (.value (.func 195)) #[107] #[224])) 0)]) .skip)) (.block 1 (.loop (.seq (sq [m 109 8,o 110 (.aY .neq 109 (.const (.int .u32 0)))] (.cond 110 .skip (.exit 1))) (.seq (.block 2 (.aI [m 113 0,o 114 (.raw (.nilCheck 113) 0),o 115 (.aN 1 114),o 116 (.raw (.call (.mk (.value (.func 196)) #[115,k0,(k 0)] #[231,4,3])) 0)])) (.aI [m 111 8,o 112 (.raw (.binOp .sub 182 111 (.const (.int .u32 1)) 182) 182),m 8 112])))))))))))))))))))
def ZrG:List Zf:=[]
def Zm4:aJ Tryz.prog 147 2 Ku ZrG:=bD [(999999,0)] Tryz.func147
def ZkH:Ze:=(.aI [m 2 0,o 3 (.call 147 [2,(.const (.int .i64 (Int.negSucc 0)))])])
def Zrt:List Zf:=[]
def Zxk:aJ Tryz.prog 149 1 ZkH Zrt:=bD [(999999,0)] Tryz.func149
def Zkw:Ze:=(.aI [m 2 0,o 3 (.raw (.nilCheck 2) 0),o 4 (.aN 0 3),c1 5 197 4])
def Zri:List Zf:=[]
def Zw9:aJ Tryz.prog 150 1 Zkw Zri:=bD [(999999,0)] Tryz.func150
def Zkp:Ze:=(.aI [m 2 0,o 3 (.raw (.nilCheck 2) 0),o 4 (.aN 0 3),c1 5 198 4])
def Zra:List Zf:=[]
def Zw2:aJ Tryz.prog 151 1 Zkp Zra:=bD [(999999,0)] Tryz.func151
def Zkj:Ze:=(.seq (.cond k1 (.aI [o 7 (.raw (.call (.mk (.value (.func 185)) #[] #[])) 0)]) .skip) (.block 0 (.loop (.block 1 (sq [m 8 0,o 9 (.raw (.nilCheck 8) 0),o 10 (.aN 0 9),c1 11 193 10,m 2 11] (sq [m 12 2,o 13 (.raw (.binOp .shr 189 12 (.const (.int .u64 32)) 176) 189),o 14 (.raw (.convert 189 21 13) 21),m 3 14] (sq [m 15 2,o 16 (.raw (.binOp .and 189 15 (.const (.int .u64 2147483647)) 189) 189),o 17 (.raw (.convert 189 182 16) 182),m 4 17] (.seq (sq [m 18 3,o 19 (.aY .eql 18 (.const (.int .i32 0)))] (.cond 19 (.seq (.cond k1 (sq [o 20 (.raw (.call (.mk (.value (.func 186)) #[] #[])) 0)] (.aI [m 21 0,o 22 (.raw (.convert 224 226 21) 226),o 23 (.raw (.call (.mk (.value (.func 200)) #[22] #[226])) 0)])) .skip) (.seq (sq [m 24 4,o 25 (.aY .eql 24 (.const (.int .u32 0))),m 26 25,mt 26 27 2,gt 26 28 (.raw (.binOp .and 189 27 (.const (.int .u64 2147483648)) 189) 189),gt 26 29 (.aY .neq 28 (.const (.int .u64 0))),pa 30 26 29,m 31 30,mt 31 32 0,gt 31 33 (.raw (.call (.mk (.value (.func 201)) #[32] #[224])) 4),pa 34 31 33] (.cond 34 (sq [m 35 0,o 36 (.raw (.nilCheck 35) 0),o 37 (.aN 0 36),m 38 2,o 39 (.call 202 [37,38,(.const (.int .u64 0))])] (.cond 39 (.aI [m 40 0,o 41 (.raw (.call (.mk (.value (.func 195)) #[40] #[224])) 0)]) .skip)) .skip)) .ret)) .skip)) (sq [m 42 0,o 43 (.raw (.nilCheck 42) 0),o 44 (.aN 0 43),m 45 2,m 46 2,o 47 (.aY .add 46 (.const (.int .u64 1))),c3 48 202 44 45 47] (.cond 48 (.seq (sq [m1 49,mt 49 50 4,gt 49 51 (.aY .eql 50 (.const (.int .u32 0))),pa 52 49 51] (.cond 52 (.aI [m 53 0,o 54 (.raw (.nilCheck 53) 0),o 55 (.aN 1 54),o 56 (.raw (.convert 231 226 55) 226),o 57 (.raw (.call (.mk (.value (.func 203)) #[56] #[226])) 0)]) .skip)) (sq [m0 5] (.seq (sq [m 58 2,o 59 (.raw (.binOp .and 189 58 (.const (.int .u64 2147483648)) 189) 189),o 60 (.aY .neq 59 (.const (.int .u64 0))),m 61 60,gt 61 62 (.raw (.call (.mk (.value (.func 187)) #[] #[])) 4),pa 63 61 62] (.cond 63 (.seq (.cond k1 (.aI [o 64 (.raw (.call (.mk (.value (.func 186)) #[] #[])) 0)]) .skip) (.seq (sq [m 65 0,o 66 (.raw (.call (.mk (.value (.func 201)) #[65] #[224])) 4)] (.cond 66 (.aI [m1 5]) .skip)) (.cond k1 (.aI [o 67 (.raw (.call (.mk (.value (.func 185)) #[] #[])) 0)]) .skip))) .skip)) (sq [m 68 0,o 69 (.raw (.nilCheck 68) 0),o 70 (.aN 1 69),m 71 5,o 72 (.raw (.call (.mk (.value (.func 204)) #[70,71] #[231,4])) 0)] (sq [m 73 0,o 74 (.raw (.nilCheck 73) 0),o 75 (.aN 0 74),c1 76 193 75,o 77 (.aY .neq 76 (.const (.int .u64 0))),m 6 77] (.seq (.cond k1 (sq [o 78 (.raw (.call (.mk (.value (.func 186)) #[] #[])) 0)] (.aI [m 79 0,o 80 (.raw (.convert 224 226 79) 226),o 81 (.raw (.call (.mk (.value (.func 200)) #[80] #[226])) 0)])) .skip) (.seq (sq [m 82 6] (.cond 82 (.aI [o 83 (.raw (.makeInterface 9 (.const (.string (.mk #[115,121,110,99,58,32,87,97,105,116,71,114,111,117,112,32,105,115,32,114,101,117,115,101,100,32,98,101,102,111,114,101,32,112,114,101,118,105,111,117,115,32,87,97,105,116,32,104,97,115,32,114,101,116,117,114,110,101,100])))) 20),u (.raw (.panic 83) 0)]) .skip)) .ret))))))) .skip))))))))))
def Zq4:List Zf:=[]
def ZwW:aJ Tryz.prog 153 1 Zkj Zq4:=bD [(999999,0)] Tryz.func153
def ZjC:Ze:=(sq [o 4 (.cY (.const (.int .u64 0)))] (sq [m 5 0,o 6 (.raw (.nilCheck 5) 0),o 7 (.aN 0 6),m 8 1,o 9 (.raw (.call (.mk (.value (.func 225)) #[7,8] #[258,189])) 189),m 4 9] .ret))
def Zqj:List Zf:=[(.aK 4)]
def Zwf:aJ Tryz.prog 191 2 ZjC Zqj:=bD [(999999,0)] Tryz.func191
def ZjB:Ze:=(sq [o 2 (.cY (.const (.int .u64 0)))] (sq [m 3 0,o 4 (.raw (.nilCheck 3) 0),o 5 (.aN 0 4),o 6 (.raw (.call (.mk (.value (.func 226)) #[5] #[258])) 189),m 2 6] .ret))
def Zqi:List Zf:=[(.aK 2)]
def Zwe:aJ Tryz.prog 193 1 ZjB Zqi:=bD [(999999,0)] Tryz.func193
def ZjA:Ze:=(.aI [m 4 0,o 5 (.raw (.nilCheck 4) 0),o 6 (.aN 0 5),m 7 1,o 8 (.raw (.call (.mk (.value (.func 227)) #[6,7] #[258,189])) 0)])
def Zqh:List Zf:=[]
def Zwd:aJ Tryz.prog 194 2 ZjA Zqh:=bD [(999999,0)] Tryz.func194
def Zjz:Ze:=(sq [o 2 (.raw (.call (.mk (.value (.func 185)) #[] #[])) 0)] (.seq (sq [m 3 0,o 4 (.raw (.nilCheck 3) 0),o 5 (.aN 0 4),o 6 (.raw (.call (.mk (.value (.func 228)) #[5,(.const (.int .i32 0)),(.const (.int .i32 1))] #[263,21,21])) 4)] (.cond 6 (.seq (.cond k1 (sq [o 7 (.raw (.call (.mk (.value (.func 186)) #[] #[])) 0)] (.aI [m 8 0,o 9 (.raw (.convert 261 226 8) 226),o 10 (.raw (.call (.mk (.value (.func 200)) #[9] #[226])) 0)])) .skip) .ret) .skip)) (.aI [m 11 0,c1 12 229 11])))
def Zqg:List Zf:=[]
def Zwc:aJ Tryz.prog 197 1 Zjz Zqg:=bD [(999999,0)] Tryz.func197
def Zjy:Ze:=(.seq (.cond k1 (sq [m 3 0,o 4 (.raw (.nilCheck 3) 0),o 5 (.aN 0 4),o 6 (.jJ (.load 21 5) 21)] (sq [m 7 0,o 8 (.raw (.convert 261 226 7) 226),o 9 (.raw (.call (.mk (.value (.func 184)) #[8] #[226])) 0)] (.aI [o 10 (.raw (.call (.mk (.value (.func 185)) #[] #[])) 0)]))) .skip) (sq [m 11 0,o 12 (.raw (.nilCheck 11) 0),o 13 (.aN 0 12),o 14 (.raw (.call (.mk (.value (.func 230)) #[13,(.const (.int .i32 (Int.negSucc 0)))] #[263,21])) 21),m 2 14] (.seq (sq [m 15 2,o 16 (.aY .neq 15 (.const (.int .i32 0)))] (.cond 16 (.aI [m 17 0,m 18 2,c2 19 231 17 18]) .skip)) (.aI [o 20 (.raw (.call (.mk (.value (.func 186)) #[] #[])) 0)]))))
def ZhQ:List Zf:=[]
def Zwb:aJ Tryz.prog 198 1 Zjy ZhQ:=bD [(999999,0)] Tryz.func198
def Zjx:Ze:=(sq [m0 6] (sq [m 7 0,o 8 (.raw (.nilCheck 7) 0),o 9 (.aN 0 8),m 10 1,m 11 2,o 12 (.raw (.call (.mk (.value (.func 232)) #[9,10,11] #[258,189,189])) 4),m 6 12] .ret))
def Zqf:List Zf:=[(.aK 6)]
def Zwa:aJ Tryz.prog 202 3 Zjx Zqf:=bD [(999999,0)] Tryz.func202
def Zjj:Ze:=(sq [mi 2 0] (sq [m0 3] (sq [m0 4] (sq [mi 5 0] (sq [m 10 0,o 11 (.raw (.nilCheck 10) 0),o 12 (.aN 0 11),o 13 (.jJ (.load 21 12) 21),m 6 13] (.seq (.block 0 (.loop (.block 1 (.seq (sq [m 14 6,o 15 (.raw (.binOp .and 21 14 (.const (.int .i32 5)) 21) 21),o 16 (.aY .eql 15 (.const (.int .i32 1))),m 17 16,mt 17 18 5,gt 17 19 (.raw (.call (.mk (.value (.func 247)) #[18] #[3])) 4),pa 20 17 19] (.cond 20 (.seq (sq [m 21 4,o 22 (.not 21),m 23 22,mt 23 24 6,gt 23 25 (.raw (.binOp .and 21 24 (.const (.int .i32 2)) 21) 21),gt 23 26 (.aY .eql 25 (.const (.int .i32 0))),pa 27 23 26,m 28 27,mt 28 29 6,gt 28 30 (.raw (.binOp .shr 21 29 (.const (.int .u64 3)) 176) 21),gt 28 31 (.aY .neq 30 (.const (.int .i32 0))),pa 32 28 31,m 33 32,mt 33 34 0,gt 33 35 (.raw (.nilCheck 34) 0),gt 33 36 (.aN 0 35),mt 33 37 6,mt 33 38 6,gt 33 39 (.raw (.binOp .or 21 38 (.const (.int .i32 2)) 21) 21),gt 33 40 (.raw (.call (.mk (.value (.func 228)) #[36,37,39] #[263,21,21])) 4),pa 41 33 40] (.cond 41 (.aI [m1 4]) .skip)) (sq [o 42 (.raw (.call (.mk (.value (.func 248)) #[] #[])) 0)] (sq [m 43 5,bk 44 .add 43 1,m 5 44] (sq [m 45 0,o 46 (.raw (.nilCheck 45) 0),o 47 (.aN 0 46),o 48 (.jJ (.load 21 47) 21),m 6 48] (.exit 1))))) .skip)) (sq [m 49 6,m 7 49] (.seq (sq [m 50 6,o 51 (.raw (.binOp .and 21 50 (.const (.int .i32 4)) 21) 21),o 52 (.aY .eql 51 (.const (.int .i32 0)))] (.cond 52 (.aI [m 53 7,o 54 (.raw (.binOp .or 21 53 (.const (.int .i32 1)) 21) 21),m 7 54]) .skip)) (.seq (sq [m 55 6,o 56 (.raw (.binOp .and 21 55 (.const (.int .i32 5)) 21) 21),o 57 (.aY .neq 56 (.const (.int .i32 0)))] (.cond 57 (.aI [m 58 7,o 59 (.aY .add 58 (.const (.int .i32 8))),m 7 59]) .skip)) (.seq (sq [m 60 3,m 61 60,mt 61 62 6,gt 61 63 (.raw (.binOp .and 21 62 (.const (.int .i32 1)) 21) 21),gt 61 64 (.aY .neq 63 (.const (.int .i32 0))),pa 65 61 64] (.cond 65 (.aI [m 66 7,o 67 (.raw (.binOp .or 21 66 (.const (.int .i32 4)) 21) 21),m 7 67]) .skip)) (.seq (sq [m 68 4] (.cond 68 (.seq (sq [m 69 7,o 70 (.raw (.binOp .and 21 69 (.const (.int .i32 2)) 21) 21),o 71 (.aY .eql 70 (.const (.int .i32 0)))] (.cond 71 (.aI [o 72 (.raw (.call (.mk (.value (.func 249)) #[(.const (.string (.mk #[115,121,110,99,58,32,105,110,99,111,110,115,105,115,116,101,110,116,32,109,117,116,101,120,32,115,116,97,116,101])))] #[9])) 0)]) .skip)) (.aI [m 73 7,o 74 (.raw (.binOp .andNot 21 73 (.const (.int .i32 2)) 21) 21),m 7 74])) .skip)) (sq [m 75 0,o 76 (.raw (.nilCheck 75) 0),o 77 (.aN 0 76),m 78 6,m 79 7,o 80 (.raw (.call (.mk (.value (.func 228)) #[77,78,79] #[263,21,21])) 4)] (.cond 80 (.seq (sq [m 81 6,o 82 (.raw (.binOp .and 21 81 (.const (.int .i32 5)) 21) 21),o 83 (.aY .eql 82 (.const (.int .i32 0)))] (.cond 83 (.exit 0) .skip)) (sq [m 84 2,bk 85 .neq 84 0,m 8 85] (.seq (sq [m 86 2,bk 87 .eql 86 0] (.cond 87 (.aI [o 88 (.raw (.call (.mk (.value (.func 250)) #[] #[])) 2),m 2 88]) .skip)) (sq [m 89 0,o 90 (.raw (.nilCheck 89) 0),o 91 (.aN 1 90),m 92 8,o 93 (.raw (.call (.mk (.value (.func 251)) #[91,92,(k 2)] #[231,4,3])) 0)] (sq [m 94 3,m 95 94,gf 95 96 (.raw (.call (.mk (.value (.func 250)) #[] #[])) 2),mf 95 97 2,gf 95 98 (.raw (.binOp .sub 2 96 97 2) 2),gf 95 99 (.aY .gtr 98 (k 1000000)),po 100 95 99,m 3 100] (sq [m 101 0,o 102 (.raw (.nilCheck 101) 0),o 103 (.aN 0 102),o 104 (.jJ (.load 21 103) 21),m 6 104] (.seq (sq [m 105 6,o 106 (.raw (.binOp .and 21 105 (.const (.int .i32 4)) 21) 21),o 107 (.aY .neq 106 (.const (.int .i32 0)))] (.cond 107 (.seq (sq [m 108 6,o 109 (.raw (.binOp .and 21 108 (.const (.int .i32 3)) 21) 21),o 110 (.aY .neq 109 (.const (.int .i32 0))),m 111 110,mf 111 112 6,gf 111 113 (.raw (.binOp .shr 21 112 (.const (.int .u64 3)) 176) 21),gf 111 114 (.aY .eql 113 (.const (.int .i32 0))),po 115 111 114] (.cond 115 (.aI [o 116 (.raw (.call (.mk (.value (.func 249)) #[(.const (.string (.mk #[115,121,110,99,58,32,105,110,99,111,110,115,105,115,116,101,110,116,32,109,117,116,101,120,32,115,116,97,116,101])))] #[9])) 0)]) .skip)) (sq [o 9 (.cY (.const (.int .i32 (Int.negSucc 6))))] (.seq (sq [m 117 3,o 118 (.not 117),m 119 118,mf 119 120 6,gf 119 121 (.raw (.binOp .shr 21 120 (.const (.int .u64 3)) 176) 21),gf 119 122 (.aY .eql 121 (.const (.int .i32 1))),po 123 119 122] (.cond 123 (.aI [m 124 9,o 125 (.raw (.binOp .sub 21 124 (.const (.int .i32 4)) 21) 21),m 9 125]) .skip)) (sq [m 126 0,o 127 (.raw (.nilCheck 126) 0),o 128 (.aN 0 127),m 129 9,o 130 (.raw (.call (.mk (.value (.func 230)) #[128,129] #[263,21])) 21)] (.exit 0))))) .skip)) (sq [m1 4] (.aI [mi 5 0]))))))))) (.aI [m 131 0,o 132 (.raw (.nilCheck 131) 0),o 133 (.aN 0 132),o 134 (.jJ (.load 21 133) 21),m 6 134])))))))))))) (.cond k1 (sq [o 135 (.raw (.call (.mk (.value (.func 186)) #[] #[])) 0)] (.aI [m 136 0,o 137 (.raw (.convert 261 226 136) 226),o 138 (.raw (.call (.mk (.value (.func 200)) #[137] #[226])) 0)])) .skip)))))))
def Zp1:List Zf:=[]
def ZvW:aJ Tryz.prog 229 1 Zjj Zp1:=bD [(999999,0)] Tryz.func229
def Zji:Ze:=(.seq (sq [m 5 1,o 6 (.aY .add 5 (.const (.int .i32 1))),o 7 (.raw (.binOp .and 21 6 (.const (.int .i32 1)) 21) 21),o 8 (.aY .eql 7 (.const (.int .i32 0)))] (.cond 8 (.aI [o 9 (.raw (.call (.mk (.value (.func 252)) #[(.const (.string (.mk #[115,121,110,99,58,32,117,110,108,111,99,107,32,111,102,32,117,110,108,111,99,107,101,100,32,109,117,116,101,120])))] #[9])) 0)]) .skip)) (sq [m 10 1,o 11 (.raw (.binOp .and 21 10 (.const (.int .i32 4)) 21) 21),o 12 (.aY .eql 11 (.const (.int .i32 0)))] (.cond 12 (sq [m 13 1,m 4 13] (.block 0 (.loop (.block 1 (.seq (sq [m 14 4,o 15 (.raw (.binOp .shr 21 14 (.const (.int .u64 3)) 176) 21),o 16 (.aY .eql 15 (.const (.int .i32 0))),m 17 16,mf 17 18 4,gf 17 19 (.raw (.binOp .and 21 18 (.const (.int .i32 7)) 21) 21),gf 17 20 (.aY .neq 19 (.const (.int .i32 0))),po 21 17 20] (.cond 21 .ret .skip)) (sq [m 22 4,o 23 (.raw (.binOp .sub 21 22 (.const (.int .i32 8)) 21) 21),o 24 (.raw (.binOp .or 21 23 (.const (.int .i32 2)) 21) 21),m 1 24] (.seq (sq [m 25 0,o 26 (.raw (.nilCheck 25) 0),o 27 (.aN 0 26),m 28 4,m 29 1,o 30 (.raw (.call (.mk (.value (.func 228)) #[27,28,29] #[263,21,21])) 4)] (.cond 30 (sq [m 31 0,o 32 (.raw (.nilCheck 31) 0),o 33 (.aN 1 32),o 34 (.raw (.call (.mk (.value (.func 253)) #[33,k0,(k 2)] #[231,4,3])) 0)] .ret) .skip)) (.aI [m 35 0,o 36 (.raw (.nilCheck 35) 0),o 37 (.aN 0 36),o 38 (.jJ (.load 21 37) 21),m 4 38])))))))) (.aI [m 39 0,o 40 (.raw (.nilCheck 39) 0),o 41 (.aN 1 40),o 42 (.raw (.call (.mk (.value (.func 253)) #[41,k1,(k 2)] #[231,4,3])) 0)]))))
def ZhP:List Zf:=[]
def ZvV:aJ Tryz.prog 231 2 Zji ZhP:=bD [(999999,0)] Tryz.func231
def X1:eX Tryz.prog 184 (Extern.Race.marked .releaseMerge):=⟨Tryz.f184,Tryz.func184,U,U,U,U⟩
def UT:eX Tryz.prog 185 (λ_=>do mark .disable;pure Zt):=⟨Tryz.f185,Tryz.func185,U,U,U,U⟩
def Yi:eX Tryz.prog 186 (λ_=>do mark .enable;pure Zt):=⟨Tryz.f186,Tryz.func186,U,U,U,U⟩
def Xy:eX Tryz.prog 187 (λ_=>pure (.bool false)):=⟨Tryz.f187,Tryz.func187,U,U,U,U⟩
def Xz:eX Tryz.prog 192 (Extern.Race.marked .read):=⟨Tryz.f192,Tryz.func192,U,U,U,U⟩
def ZmI:eX Tryz.prog 196 Extern.Sync.semrelease:=⟨Tryz.f196,Tryz.func196,U,U,U,U⟩
def YI:eX Tryz.prog 200 (Extern.Race.marked .acquire):=⟨Tryz.f200,Tryz.func200,U,U,U,U⟩
def ZmH:eX Tryz.prog 203 (Extern.Race.marked .write):=⟨Tryz.f203,Tryz.func203,U,U,U,U⟩
def ZmG:eX Tryz.prog 204 Extern.Sync.semacquire:=⟨Tryz.f204,Tryz.func204,U,U,U,U⟩
def Lh:eX Tryz.prog 225 (Extern.Atomic.update (Op.intArith .add) .u64 true):=⟨Tryz.f225,Tryz.func225,U,U,U,U⟩
def X2:eX Tryz.prog 226 (Extern.Atomic.loadT (.int .u64)):=⟨Tryz.f226,Tryz.func226,U,U,U,U⟩
def ZmF:eX Tryz.prog 227 Extern.Atomic.storeT:=⟨Tryz.f227,Tryz.func227,U,U,U,U⟩
def YH:eX Tryz.prog 228 (Extern.Atomic.casT (.int .i32)):=⟨Tryz.f228,Tryz.func228,U,U,U,U⟩
def YX:eX Tryz.prog 230 (Extern.Atomic.update (Op.intArith .add) .i32 true):=⟨Tryz.f230,Tryz.func230,U,U,U,U⟩
def ZmE:eX Tryz.prog 232 (Extern.Atomic.casT (.int .u64)):=⟨Tryz.f232,Tryz.func232,U,U,U,U⟩
def ZmD:eX Tryz.prog 247 Extern.Sync.canSpin:=⟨Tryz.f247,Tryz.func247,U,U,U,U⟩
def X3:eX Tryz.prog 248 (λ_=>pure Zt):=⟨Tryz.f248,Tryz.func248,U,U,U,U⟩
def FY:eX Tryz.prog 250 Extern.OsHooks.nano:=⟨Tryz.f250,Tryz.func250,U,U,U,U⟩
def OP:eX Tryz.prog 251 Extern.Sync.semacquire:=⟨Tryz.f251,Tryz.func251,U,U,U,U⟩
def X4:eX Tryz.prog 253 Extern.Sync.semrelease:=⟨Tryz.f253,Tryz.func253,U,U,U,U⟩
end
variable{f:FuncId}{k:IntKind}{t:TypeId}{Post:Value->Hp->Prop}{α:Type}{H':Hp}{a:Addr}{cs:List Value}{i bV:Nat}
class Tz (P:aX):Prop where
 prog:P.toProgram=Tryz.prog
def bG{P:aX}[Tz P]{f k:Nat}{n:Ze}{r:List Zf}(h:aJ Tryz.prog f k n r):aJ P.toProgram f k n r:=by rw[Tz.prog (P:=P)];exact h
def bI{P:aX}[Tz P]{d:TypeDesc}(h:Tryz.prog.underlying t=some d):P.toProgram.underlying t=some d:=by rw[Tz.prog (P:=P)];exact h
def cD{P:aX}[Tz P]{c:Nat}{z:Value}{b:Nat}(h:Yl Tryz.prog t=some (c,some z,b)):TI P.toProgram t c z b:=by rw[Tz.prog (P:=P)];exact ZgP h
def zZ{P:aX}[Tz P]{n:Option Nat}(h:Yd Tryz.prog t=some n):Yd P.toProgram t=some n:=by rw[Tz.prog (P:=P)];exact h
def Zm5(p:Program)(f:FuncId):Bool:=match p.funcs[f]? with | some fn=>fn.body.isSome && !(fn.name == "runtime.NumGoroutine") | none=>false
def Yj{P:aX}[Tz P]{first cap args:Array Value}{H:Hp}(hb:Zm5 Tryz.prog f=true)(h:LL.Zc P f (first++args++cap) H Post):ZV P (.func (.func f) first cap) args H Post:=by
 unfold Zm5 at hb;split at hb
 ·rename_i fn b;simp only[qAc,qBe]at hb;exact ZV.of (by rw[Tz.prog (P:=P)];exact b) hb.1 hb.2 h
 simp at hb
abbrev vi(n:Int):Value:=.int .i64 n
abbrev vb(b:Bool):Value:=.bool b
abbrev vf(f:Nat):Value:=.func (.func f) #[] #[]
def Mr:Tryz.prog.underlying 165=some (.array 3 113):=U
def Mm:Yl Tryz.prog 113=some (1,some .nilFunc,8):=U
def It:Yd Tryz.prog 113=some none:=U
def dW:Tryz.prog.underlying 26=some (.slice 3):=U
def t3:Yl Tryz.prog 3=some (1,some (vi 0),8):=U
def a3:Yd Tryz.prog 3=some none:=U
class Enc (α:Type) where
 sz:Nat
 enc:α->List Value
 len:∀a,(enc a).length=sz
def Zb[Enc α](l:List α):List Value:=l.flatMap Enc.enc
def VH{α:Type}[Enc α]:∀l:List α,(Zb l).length=l.length * Enc.sz α
 | []=>by simp[Zb]
 | a :: l=>by have:=VH l;simp only[Zb,qAM,BY,Enc.len,qAs]at this ⊢;rw[this,qBY];omega
def LA{α:Type}[Enc α]:∀(l:List α) (i j:Nat) (b:i<l.length),j<Enc.sz α->(Zb l)[i * Enc.sz α+j]? = (Enc.enc l[i])[j]?
 | [],i,j,b,_=>by simp at b
 | a :: l,0,j,b,c=>by simp only[Zb,qAM,qDm,qAE,List.getElem_cons_zero];rw[qBf (by rw[Enc.len];exact c)]
 | a :: l,i+1,j,b,c=>by have:=LA l i j (by simpa using b) c;simp only[Zb,qAM,List.getElem_cons_succ]at this ⊢;rw[qBP (by rw[Enc.len,qBY];omega),Enc.len,<-this];congr 1;rw[qBY];omega
def aF[Enc α](H:Hp)(v:Value)(l:List α):Prop:=∃A c,v=.slice A l.length c/\(l≠[]->∃a,A=some a/\aC H a (Zb l))
def _root_.Go.LL.aC.sub{H:Hp}(h:aC H a cs)(g:H.Sub H'):aC H' a cs:=by obtain⟨b,o,p,c,e⟩:=h;exact⟨b,o,p,g.mem _ _ c,e⟩
def aF.sub[Enc α]{H:Hp}{v:Value}{l:List α}(h:aF H v l)(n:H.Sub H'):aF H' v l:=by obtain⟨A,c,b,e⟩:=h;refine⟨A,c,b,λm=>?_⟩;obtain⟨a,g,j⟩:=e m;exact⟨a,g,j.sub n⟩
def aF.nil[Enc α](H:Hp):aF H (.slice none 0 0) ([]:List α):=⟨none,0,rfl,λh=>absurd rfl h⟩
theorem IJ(a:Addr)(n:Nat):(a.add n).off=a.off+n:=by
 unfold Addr.add;split
 ·subst n;rfl
 rfl
theorem II(a:Addr)(n:Nat):(a.add n).block=a.block:=by unfold Addr.add;split<;>rfl
theorem P4(h:a.spot=none)(n:Nat):(a.add n).spot=none:=by
 unfold Addr.add;split
 ·exact h
 rfl
def _root_.Go.LL.aC.row[Enc α]{H:Hp}{l:List α}(h:aC H a (Zb l))(b:i<l.length):aC H (a.add (i * Enc.sz α)) (Enc.enc l[i]):=by obtain⟨e,o,p,g,m⟩:=h;refine⟨P4 e _,o,p,by rw[II];exact g,λj c=>?_⟩;rw[Enc.len]at c;rw[IJ,qDw,m _ (by rw[VH];have:(i+1) * Enc.sz α<=l.length * Enc.sz α:=qCT _ b;rw[qBY]at this;omega),LA l i j b c]
section
variable{P:aX}{d:Option Nat}{next:aM->Hp->Prop}{σ:aM}{H:Hp}{x y:Operand}{v:Value}
def pN[Enc α]{l:List α}(p:aF H v l)(e:σ.get x=some v)(g:σ.get y=some (.int k (i:Int)))(o:Enc.sz α=bV)(b:i<l.length)(h:∀a,aC H a (Enc.enc l[i])->next (σ.set d (.pointer (some a))) H):(bE.bQ bV x y).m P d next σ H:=by obtain⟨A,c,rfl,j⟩:=p;obtain⟨a,rfl,n⟩:=j (by rintro rfl;simp at b);subst o;exact OD e g b (h _ (n.row b))
def YE[Enc α]{l:List α}(b:aF H v l)(e:σ.get x=some v)(h:next (σ.set d (.int .i64 (l.length:Int))) H):(bE.len x).m P d next σ H:=by obtain⟨A,c,rfl,g⟩:=b;exact Jh e h
def Zz[Enc α]{l:List α}(i:Nat)(j:aF H v l)(g:i<l.length)(h:∀a,aC H a (Enc.enc l[i])->next (σ.set d (.pointer (some a))) H)(b:σ.get x=some v:=by exact rfl)(c:σ.get y=some (.int k (i:Int)):=by exact rfl)(e:Enc.sz α=bV:=by exact rfl):(bE.bQ bV x y).m P d next σ H:=pN j b c e g h
def Ya[Loud P](b:aC H a [v])(h:next (σ.set d v) H)(e:σ.get x=some (.pointer (some a)):=by exact rfl):(bE.ld none x).m P d next σ H:=Zh (Loud.aV _) e b h
def YA[Loud P]{n:Nat}(b:aC H a cs)(h:next (σ.set d (.agg cs.toArray)) H)(e:σ.get x=some (.pointer (some a)):=by exact rfl)(c:cs.length=n:=by exact rfl):(bE.ld (some n) x).m P d next σ H:=Zn (Loud.aV _) e b c h
def Za{b:List Operand}(vs:List Value)(c:LL.Zc P f vs.toArray H Post)(h:∀v H',Post v H'->next (σ.set d v) H')(e:σ.gets b=some vs:=by exact rfl):(bE.call f b).m P d next σ H:=ZW e c h
end
instance:Enc Int:=⟨1,λn=>[vi n],λ_=>rfl⟩
instance:Enc Value:=⟨1,λv=>[v],λ_=>rfl⟩
