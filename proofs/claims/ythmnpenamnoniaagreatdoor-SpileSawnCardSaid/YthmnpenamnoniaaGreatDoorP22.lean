import Derived.Test.YthmnpenamnoniaaGreatDoorP10
import Derived.Test.YthmnpenamnoniaaGreatDoorP11
import Derived.Test.YthmnpenamnoniaaGreatDoorP21
import Derived.KernelRfl
import Derived.Test.YthmnpenamnoniaaGreatDoorProg
set_option linter.all false
section
open Go Go.LL
namespace Go.Z
abbrev t (n:Nat):Operand:=.tmp n
abbrev k (n:Int):Operand:=.const (.int .i64 n)
abbrev k0:Operand:=.const (.bool false)
abbrev k1:Operand:=.const (.bool true)
abbrev z0:Value:=.int .i64 0
abbrev s0:Value:=.slice none 0 0
abbrev o (d:Nat)(x:NOp):NI:=⟨none,some d,x⟩
abbrev u (x:NOp):NI:=⟨none,none,x⟩
abbrev gf (g d:Nat)(x:NOp):NI:=⟨some (g,false),some d,x⟩
abbrev gt (g d:Nat)(x:NOp):NI:=⟨some (g,true),some d,x⟩
abbrev m (d a:Nat):NI:=⟨none,some d,.mov (.tmp a)⟩
abbrev mf (g d a:Nat):NI:=⟨some (g,false),some d,.mov (.tmp a)⟩
abbrev mt (g d a:Nat):NI:=⟨some (g,true),some d,.mov (.tmp a)⟩
abbrev mi (d:Nat)(n:Int):NI:=⟨none,some d,.mov (.const (.int .i64 n))⟩
abbrev m0 (d:Nat):NI:=⟨none,some d,.mov (.const (.bool false))⟩
abbrev m1 (d:Nat):NI:=⟨none,some d,.mov (.const (.bool true))⟩
abbrev x (d a i:Nat):NI:=⟨none,some d,.ext (.tmp a) i⟩
abbrev l (d a b c:Nat):NI:=⟨none,some d,.lld a (some b) c⟩
abbrev ln (d a b:Nat):NI:=⟨none,some d,.lld a none b⟩
abbrev f (d a b:Nat):NI:=⟨none,some d,.lfadr a b⟩
abbrev ia (d e a b:Nat):NI:=⟨none,some d,.iadr e (.tmp a) (.tmp b)⟩
abbrev c0 (d f:Nat):NI:=⟨none,some d,.call f []⟩
abbrev c1 (d f a:Nat):NI:=⟨none,some d,.call f [.tmp a]⟩
abbrev c2 (d f a b:Nat):NI:=⟨none,some d,.call f [.tmp a,.tmp b]⟩
abbrev c3 (d f a b c:Nat):NI:=⟨none,some d,.call f [.tmp a,.tmp b,.tmp c]⟩
abbrev ls (a b c x:Nat):NI:=⟨none,none,.lst a b c (.tmp x)⟩
abbrev ld (d a:Nat):NI:=⟨none,some d,.ld none (.tmp a)⟩
abbrev lm (d n a:Nat):NI:=⟨none,some d,.ld (some n) (.tmp a)⟩
abbrev le (d a:Nat):NI:=⟨none,some d,.len (.tmp a)⟩
abbrev b (d:Nat)(p:BinOp)(x y:Nat):NI:=⟨none,some d,.bin p (.tmp x) (.tmp y)⟩
abbrev bk (d:Nat)(p:BinOp)(x:Nat)(n:Int):NI:=⟨none,some d,.bin p (.tmp x) (.const (.int .i64 n))⟩
abbrev po (d x y:Nat):NI:=⟨none,some d,.pick (.tmp x) (.const (.bool true)) (.tmp y)⟩
abbrev pa (d x y:Nat):NI:=⟨none,some d,.pick (.tmp x) (.tmp y) (.const (.bool false))⟩
abbrev st (e x y r:Nat):NI:=⟨none,none,.raw (.store e (.tmp x) (.tmp y)) r⟩
abbrev sq (l:List NI)(c:Zaj):Zaj:=.seq (.ops l) c
end Go.Z
namespace Go.LL
theorem isq {P:Program}{f:FuncId}{k:Nat}{n:Zaj}{rs:List NRes}{fn:Func}(L:List (Nat×Nat))(h:P.funcs[f]? = some fn)(h1:fn.body.bind (ZaS P L fn.ntmps ⟨true,fn.norace⟩)=some n:=by kernel_rfl)(h2:ZeX P L fn.results.toList=some rs:=by kernel_rfl)(h3:((L.all fun p=>decide (k<=p.1)) && decide (k<=fn.ntmps) && (!(nrL L) || fn.norace))=true:=by kernel_rfl):IsN P f k n rs:=⟨fn,L,h,h1,h2,h3⟩
end Go.LL
open Go Go.LL Go.Z
namespace Go.Proofs
def n109:Zaj:=(.seq (.cond k1 (.seq (sq [m 9 1,bk 10 .lss 9 0] (.cond (t 10) (.ops [m 11 0,o 12 (.raw (.convert 242 244 (t 11)) 244),o 13 (.raw (.call (.mk (.value (.func 155)) #[(t 12)] #[244])) 0)]) .skip)) (sq [o 14 (.raw (.call (.mk (.value (.func 156)) #[] #[])) 0)] (.ops [u (.raw (.defer (.mk (.value (.func 157)) #[] #[])) 0)]))) .skip) (sq [m0 4] (.seq (sq [o 15 (.raw (.call (.mk (.value (.func 158)) #[] #[])) 4)] (.cond (t 15) (sq [m 16 0,o 17 (.raw (.call (.mk (.value (.func 159)) #[(t 16)] #[242])) 245)] (.block 0 (sq [bk 19 .eql 17 0,m 18 19] (.cond (t 18) .skip (sq [bk 21 .eql 17 2,m 20 21] (.cond (t 20) (.ops [o 22 (.raw (.call (.mk (.value (.func 160)) #[(.const (.string (.mk #[115,121,110,99,58,32,87,97,105,116,71,114,111,117,112,46,65,100,100,32,99,97,108,108,101,100,32,102,114,111,109,32,109,117,108,116,105,112,108,101,32,115,121,110,99,116,101,115,116,32,98,117,98,98,108,101,115])))] #[9])) 0)]) (sq [bk 24 .eql 17 1,m 23 24] (.cond (t 23) (sq [m1 4] (sq [m 25 0,o 26 (.raw (.nilCheck (t 25)) 0),o 27 (.fadr 0 (t 26)),o 28 (.call 161 [(t 27),(.const (.int .u64 2147483648))]),m 5 28] (sq [m 29 5,o 30 (.bin .neq (t 29) (.const (.int .u64 0))),m 31 30,mt 31 32 5,gt 31 33 (.raw (.binOp .and 189 (t 32) (.const (.int .u64 2147483648)) 189) 189),gt 31 34 (.bin .eql (t 33) (.const (.int .u64 0))),pa 35 31 34] (.cond (t 35) (.ops [o 36 (.raw (.call (.mk (.value (.func 160)) #[(.const (.string (.mk #[115,121,110,99,58,32,87,97,105,116,71,114,111,117,112,46,65,100,100,32,99,97,108,108,101,100,32,102,114,111,109,32,105,110,115,105,100,101,32,97,110,100,32,111,117,116,115,105,100,101,32,115,121,110,99,116,101,115,116,32,98,117,98,98,108,101])))] #[9])) 0)]) .skip)))) .skip)))))))) .skip)) (sq [m 37 0,o 38 (.raw (.nilCheck (t 37)) 0),o 39 (.fadr 0 (t 38)),m 40 1,o 41 (.raw (.convert 3 189 (t 40)) 189),o 42 (.raw (.binOp .shl 189 (t 41) (.const (.int .u64 32)) 240) 189),c2 43 162 39 42,m 6 43] (.seq (sq [m 44 6,o 45 (.raw (.binOp .and 189 (t 44) (.const (.int .u64 2147483648)) 189) 189),o 46 (.bin .neq (t 45) (.const (.int .u64 0))),m 47 46,mt 47 48 4,gt 47 49 (.not (t 48)),pa 50 47 49] (.cond (t 50) (.ops [o 51 (.raw (.call (.mk (.value (.func 160)) #[(.const (.string (.mk #[115,121,110,99,58,32,87,97,105,116,71,114,111,117,112,46,65,100,100,32,99,97,108,108,101,100,32,102,114,111,109,32,105,110,115,105,100,101,32,97,110,100,32,111,117,116,115,105,100,101,32,115,121,110,99,116,101,115,116,32,98,117,98,98,108,101])))] #[9])) 0)]) .skip)) (sq [m 52 6,o 53 (.raw (.binOp .shr 189 (t 52) (.const (.int .u64 32)) 240) 189),o 54 (.raw (.convert 189 21 (t 53)) 21),m 7 54] (sq [m 55 6,o 56 (.raw (.binOp .and 189 (t 55) (.const (.int .u64 2147483647)) 189) 189),o 57 (.raw (.convert 189 182 (t 56)) 182),m 8 57] (.seq (sq [m1 58,mt 58 59 1,gt 58 60 (.bin .gtr (t 59) (k 0)),pa 61 58 60,m 62 61,mt 62 63 7,mt 62 64 1,gt 62 65 (.raw (.convert 3 21 (t 64)) 21),gt 62 66 (.bin .eql (t 63) (t 65)),pa 67 62 66] (.cond (t 67) (.ops [m 68 0,o 69 (.raw (.nilCheck (t 68)) 0),o 70 (.fadr 1 (t 69)),o 71 (.raw (.convert 249 244 (t 70)) 244),o 72 (.raw (.call (.mk (.value (.func 163)) #[(t 71)] #[244])) 0)]) .skip)) (.seq (sq [m 73 7,o 74 (.bin .lss (t 73) (.const (.int .i32 0)))] (.cond (t 74) (.ops [o 75 (.raw (.makeInterface 9 (.const (.string (.mk #[115,121,110,99,58,32,110,101,103,97,116,105,118,101,32,87,97,105,116,71,114,111,117,112,32,99,111,117,110,116,101,114])))) 20),u (.raw (.panic (t 75)) 0)]) .skip)) (.seq (sq [m 76 8,o 77 (.bin .neq (t 76) (.const (.int .u32 0))),m 78 77,mt 78 79 1,gt 78 80 (.bin .gtr (t 79) (k 0)),pa 81 78 80,m 82 81,mt 82 83 7,mt 82 84 1,gt 82 85 (.raw (.convert 3 21 (t 84)) 21),gt 82 86 (.bin .eql (t 83) (t 85)),pa 87 82 86] (.cond (t 87) (.ops [o 88 (.raw (.makeInterface 9 (.const (.string (.mk #[115,121,110,99,58,32,87,97,105,116,71,114,111,117,112,32,109,105,115,117,115,101,58,32,65,100,100,32,99,97,108,108,101,100,32,99,111,110,99,117,114,114,101,110,116,108,121,32,119,105,116,104,32,87,97,105,116])))) 20),u (.raw (.panic (t 88)) 0)]) .skip)) (.seq (sq [m 89 7,o 90 (.bin .gtr (t 89) (.const (.int .i32 0))),m 91 90,mf 91 92 8,gf 91 93 (.bin .eql (t 92) (.const (.int .u32 0))),po 94 91 93] (.cond (t 94) .ret .skip)) (.seq (sq [m 95 0,o 96 (.raw (.nilCheck (t 95)) 0),o 97 (.fadr 0 (t 96)),c1 98 164 97,m 99 6,b 100 .neq 98 99] (.cond (t 100) (.ops [o 101 (.raw (.makeInterface 9 (.const (.string (.mk #[115,121,110,99,58,32,87,97,105,116,71,114,111,117,112,32,109,105,115,117,115,101,58,32,65,100,100,32,99,97,108,108,101,100,32,99,111,110,99,117,114,114,101,110,116,108,121,32,119,105,116,104,32,87,97,105,116])))) 20),u (.raw (.panic (t 101)) 0)]) .skip)) (sq [m 102 0,o 103 (.raw (.nilCheck (t 102)) 0),o 104 (.fadr 0 (t 103)),o 105 (.call 165 [(t 104),(.const (.int .u64 0))])] (.seq (sq [m 106 4] (.cond (t 106) (.ops [m 107 0,o 108 (.raw (.call (.mk (.value (.func 166)) #[(t 107)] #[242])) 0)]) .skip)) (.block 1 (.loop (.seq (sq [m 109 8,o 110 (.bin .neq (t 109) (.const (.int .u32 0)))] (.cond (t 110) .skip (.exit 1))) (.seq (.block 2 (.ops [m 113 0,o 114 (.raw (.nilCheck (t 113)) 0),o 115 (.fadr 1 (t 114)),o 116 (.raw (.call (.mk (.value (.func 167)) #[(t 115),k0,(k 0)] #[249,4,3])) 0)])) (.ops [m 111 8,o 112 (.raw (.binOp .sub 182 (t 111) (.const (.int .u32 1)) 182) 182),m 8 112])))))))))))))))))))
def r109:List NRes:=[]
theorem c109:IsN Tryz.prog 102 2 n109 r109:=isq [(999999,0)] Tryz.func102
def n111:Zaj:=(.ops [m 2 0,o 3 (.call 102 [(t 2),(.const (.int .i64 (Int.negSucc 0)))])])
def r111:List NRes:=[]
theorem c111:IsN Tryz.prog 104 1 n111 r111:=isq [(999999,0)] Tryz.func104
def n113:Zaj:=(.ops [m 2 0,o 3 (.raw (.nilCheck (t 2)) 0),o 4 (.fadr 0 (t 3)),c1 5 168 4])
def r113:List NRes:=[]
theorem c113:IsN Tryz.prog 106 1 n113 r113:=isq [(999999,0)] Tryz.func106
def n114:Zaj:=(.ops [m 2 0,o 3 (.raw (.nilCheck (t 2)) 0),o 4 (.fadr 0 (t 3)),c1 5 169 4])
def r114:List NRes:=[]
theorem c114:IsN Tryz.prog 107 1 n114 r114:=isq [(999999,0)] Tryz.func107
def n115:Zaj:=(.seq (.cond k1 (.ops [o 7 (.raw (.call (.mk (.value (.func 156)) #[] #[])) 0)]) .skip) (.block 0 (.loop (.block 1 (sq [m 8 0,o 9 (.raw (.nilCheck (t 8)) 0),o 10 (.fadr 0 (t 9)),c1 11 164 10,m 2 11] (sq [m 12 2,o 13 (.raw (.binOp .shr 189 (t 12) (.const (.int .u64 32)) 240) 189),o 14 (.raw (.convert 189 21 (t 13)) 21),m 3 14] (sq [m 15 2,o 16 (.raw (.binOp .and 189 (t 15) (.const (.int .u64 2147483647)) 189) 189),o 17 (.raw (.convert 189 182 (t 16)) 182),m 4 17] (.seq (sq [m 18 3,o 19 (.bin .eql (t 18) (.const (.int .i32 0)))] (.cond (t 19) (.seq (.cond k1 (sq [o 20 (.raw (.call (.mk (.value (.func 157)) #[] #[])) 0)] (.ops [m 21 0,o 22 (.raw (.convert 242 244 (t 21)) 244),o 23 (.raw (.call (.mk (.value (.func 170)) #[(t 22)] #[244])) 0)])) .skip) (.seq (sq [m 24 4,o 25 (.bin .eql (t 24) (.const (.int .u32 0))),m 26 25,mt 26 27 2,gt 26 28 (.raw (.binOp .and 189 (t 27) (.const (.int .u64 2147483648)) 189) 189),gt 26 29 (.bin .neq (t 28) (.const (.int .u64 0))),pa 30 26 29,m 31 30,mt 31 32 0,gt 31 33 (.raw (.call (.mk (.value (.func 171)) #[(t 32)] #[242])) 4),pa 34 31 33] (.cond (t 34) (sq [m 35 0,o 36 (.raw (.nilCheck (t 35)) 0),o 37 (.fadr 0 (t 36)),m 38 2,o 39 (.call 172 [(t 37),(t 38),(.const (.int .u64 0))])] (.cond (t 39) (.ops [m 40 0,o 41 (.raw (.call (.mk (.value (.func 166)) #[(t 40)] #[242])) 0)]) .skip)) .skip)) .ret)) .skip)) (sq [m 42 0,o 43 (.raw (.nilCheck (t 42)) 0),o 44 (.fadr 0 (t 43)),m 45 2,m 46 2,o 47 (.bin .add (t 46) (.const (.int .u64 1))),c3 48 172 44 45 47] (.cond (t 48) (.seq (sq [m1 49,mt 49 50 4,gt 49 51 (.bin .eql (t 50) (.const (.int .u32 0))),pa 52 49 51] (.cond (t 52) (.ops [m 53 0,o 54 (.raw (.nilCheck (t 53)) 0),o 55 (.fadr 1 (t 54)),o 56 (.raw (.convert 249 244 (t 55)) 244),o 57 (.raw (.call (.mk (.value (.func 173)) #[(t 56)] #[244])) 0)]) .skip)) (sq [m0 5] (.seq (sq [m 58 2,o 59 (.raw (.binOp .and 189 (t 58) (.const (.int .u64 2147483648)) 189) 189),o 60 (.bin .neq (t 59) (.const (.int .u64 0))),m 61 60,gt 61 62 (.raw (.call (.mk (.value (.func 158)) #[] #[])) 4),pa 63 61 62] (.cond (t 63) (.seq (.cond k1 (.ops [o 64 (.raw (.call (.mk (.value (.func 157)) #[] #[])) 0)]) .skip) (.seq (sq [m 65 0,o 66 (.raw (.call (.mk (.value (.func 171)) #[(t 65)] #[242])) 4)] (.cond (t 66) (.ops [m1 5]) .skip)) (.cond k1 (.ops [o 67 (.raw (.call (.mk (.value (.func 156)) #[] #[])) 0)]) .skip))) .skip)) (sq [m 68 0,o 69 (.raw (.nilCheck (t 68)) 0),o 70 (.fadr 1 (t 69)),m 71 5,o 72 (.raw (.call (.mk (.value (.func 174)) #[(t 70),(t 71)] #[249,4])) 0)] (sq [m 73 0,o 74 (.raw (.nilCheck (t 73)) 0),o 75 (.fadr 0 (t 74)),c1 76 164 75,o 77 (.bin .neq (t 76) (.const (.int .u64 0))),m 6 77] (.seq (.cond k1 (sq [o 78 (.raw (.call (.mk (.value (.func 157)) #[] #[])) 0)] (.ops [m 79 0,o 80 (.raw (.convert 242 244 (t 79)) 244),o 81 (.raw (.call (.mk (.value (.func 170)) #[(t 80)] #[244])) 0)])) .skip) (.seq (sq [m 82 6] (.cond (t 82) (.ops [o 83 (.raw (.makeInterface 9 (.const (.string (.mk #[115,121,110,99,58,32,87,97,105,116,71,114,111,117,112,32,105,115,32,114,101,117,115,101,100,32,98,101,102,111,114,101,32,112,114,101,118,105,111,117,115,32,87,97,105,116,32,104,97,115,32,114,101,116,117,114,110,101,100])))) 20),u (.raw (.panic (t 83)) 0)]) .skip)) .ret))))))) .skip))))))))))
def r115:List NRes:=[]
theorem c115:IsN Tryz.prog 108 1 n115 r115:=isq [(999999,0)] Tryz.func108
def n157:Zaj:=(sq [o 4 (.mov (.const (.int .u64 0)))] (sq [m 5 0,o 6 (.raw (.nilCheck (t 5)) 0),o 7 (.fadr 0 (t 6)),m 8 1,o 9 (.raw (.call (.mk (.value (.func 207)) #[(t 7),(t 8)] #[289,189])) 189),m 4 9] .ret))
def r157:List NRes:=[(.slot 4)]
theorem c157:IsN Tryz.prog 162 2 n157 r157:=isq [(999999,0)] Tryz.func162
def n159:Zaj:=(sq [o 2 (.mov (.const (.int .u64 0)))] (sq [m 3 0,o 4 (.raw (.nilCheck (t 3)) 0),o 5 (.fadr 0 (t 4)),o 6 (.raw (.call (.mk (.value (.func 208)) #[(t 5)] #[289])) 189),m 2 6] .ret))
def r159:List NRes:=[(.slot 2)]
theorem c159:IsN Tryz.prog 164 1 n159 r159:=isq [(999999,0)] Tryz.func164
def n160:Zaj:=(.ops [m 4 0,o 5 (.raw (.nilCheck (t 4)) 0),o 6 (.fadr 0 (t 5)),m 7 1,o 8 (.raw (.call (.mk (.value (.func 209)) #[(t 6),(t 7)] #[289,189])) 0)])
def r160:List NRes:=[]
theorem c160:IsN Tryz.prog 165 2 n160 r160:=isq [(999999,0)] Tryz.func165
def n163:Zaj:=(sq [o 2 (.raw (.call (.mk (.value (.func 156)) #[] #[])) 0)] (.seq (sq [m 3 0,o 4 (.raw (.nilCheck (t 3)) 0),o 5 (.fadr 0 (t 4)),o 6 (.raw (.call (.mk (.value (.func 210)) #[(t 5),(.const (.int .i32 0)),(.const (.int .i32 1))] #[294,21,21])) 4)] (.cond (t 6) (.seq (.cond k1 (sq [o 7 (.raw (.call (.mk (.value (.func 157)) #[] #[])) 0)] (.ops [m 8 0,o 9 (.raw (.convert 292 244 (t 8)) 244),o 10 (.raw (.call (.mk (.value (.func 170)) #[(t 9)] #[244])) 0)])) .skip) .ret) .skip)) (.ops [m 11 0,c1 12 211 11])))
def r163:List NRes:=[]
theorem c163:IsN Tryz.prog 168 1 n163 r163:=isq [(999999,0)] Tryz.func168
def n164:Zaj:=(.seq (.cond k1 (sq [m 3 0,o 4 (.raw (.nilCheck (t 3)) 0),o 5 (.fadr 0 (t 4)),o 6 (.rawn (.load 21 (t 5)) 21)] (sq [m 7 0,o 8 (.raw (.convert 292 244 (t 7)) 244),o 9 (.raw (.call (.mk (.value (.func 155)) #[(t 8)] #[244])) 0)] (.ops [o 10 (.raw (.call (.mk (.value (.func 156)) #[] #[])) 0)]))) .skip) (sq [m 11 0,o 12 (.raw (.nilCheck (t 11)) 0),o 13 (.fadr 0 (t 12)),o 14 (.raw (.call (.mk (.value (.func 212)) #[(t 13),(.const (.int .i32 (Int.negSucc 0)))] #[294,21])) 21),m 2 14] (.seq (sq [m 15 2,o 16 (.bin .neq (t 15) (.const (.int .i32 0)))] (.cond (t 16) (.ops [m 17 0,m 18 2,c2 19 213 17 18]) .skip)) (.ops [o 20 (.raw (.call (.mk (.value (.func 157)) #[] #[])) 0)]))))
def r164:List NRes:=[]
theorem c164:IsN Tryz.prog 169 1 n164 r164:=isq [(999999,0)] Tryz.func169
def n167:Zaj:=(sq [m0 6] (sq [m 7 0,o 8 (.raw (.nilCheck (t 7)) 0),o 9 (.fadr 0 (t 8)),m 10 1,m 11 2,o 12 (.raw (.call (.mk (.value (.func 214)) #[(t 9),(t 10),(t 11)] #[289,189,189])) 4),m 6 12] .ret))
def r167:List NRes:=[(.slot 6)]
theorem c167:IsN Tryz.prog 172 3 n167 r167:=isq [(999999,0)] Tryz.func172
def n195:Zaj:=(sq [mi 2 0] (sq [m0 3] (sq [m0 4] (sq [mi 5 0] (sq [m 10 0,o 11 (.raw (.nilCheck (t 10)) 0),o 12 (.fadr 0 (t 11)),o 13 (.rawn (.load 21 (t 12)) 21),m 6 13] (.seq (.block 0 (.loop (.block 1 (.seq (sq [m 14 6,o 15 (.raw (.binOp .and 21 (t 14) (.const (.int .i32 5)) 21) 21),o 16 (.bin .eql (t 15) (.const (.int .i32 1))),m 17 16,mt 17 18 5,gt 17 19 (.raw (.call (.mk (.value (.func 231)) #[(t 18)] #[3])) 4),pa 20 17 19] (.cond (t 20) (.seq (sq [m 21 4,o 22 (.not (t 21)),m 23 22,mt 23 24 6,gt 23 25 (.raw (.binOp .and 21 (t 24) (.const (.int .i32 2)) 21) 21),gt 23 26 (.bin .eql (t 25) (.const (.int .i32 0))),pa 27 23 26,m 28 27,mt 28 29 6,gt 28 30 (.raw (.binOp .shr 21 (t 29) (.const (.int .u64 3)) 240) 21),gt 28 31 (.bin .neq (t 30) (.const (.int .i32 0))),pa 32 28 31,m 33 32,mt 33 34 0,gt 33 35 (.raw (.nilCheck (t 34)) 0),gt 33 36 (.fadr 0 (t 35)),mt 33 37 6,mt 33 38 6,gt 33 39 (.raw (.binOp .or 21 (t 38) (.const (.int .i32 2)) 21) 21),gt 33 40 (.raw (.call (.mk (.value (.func 210)) #[(t 36),(t 37),(t 39)] #[294,21,21])) 4),pa 41 33 40] (.cond (t 41) (.ops [m1 4]) .skip)) (sq [o 42 (.raw (.call (.mk (.value (.func 232)) #[] #[])) 0)] (sq [m 43 5,bk 44 .add 43 1,m 5 44] (sq [m 45 0,o 46 (.raw (.nilCheck (t 45)) 0),o 47 (.fadr 0 (t 46)),o 48 (.rawn (.load 21 (t 47)) 21),m 6 48] (.exit 1))))) .skip)) (sq [m 49 6,m 7 49] (.seq (sq [m 50 6,o 51 (.raw (.binOp .and 21 (t 50) (.const (.int .i32 4)) 21) 21),o 52 (.bin .eql (t 51) (.const (.int .i32 0)))] (.cond (t 52) (.ops [m 53 7,o 54 (.raw (.binOp .or 21 (t 53) (.const (.int .i32 1)) 21) 21),m 7 54]) .skip)) (.seq (sq [m 55 6,o 56 (.raw (.binOp .and 21 (t 55) (.const (.int .i32 5)) 21) 21),o 57 (.bin .neq (t 56) (.const (.int .i32 0)))] (.cond (t 57) (.ops [m 58 7,o 59 (.bin .add (t 58) (.const (.int .i32 8))),m 7 59]) .skip)) (.seq (sq [m 60 3,m 61 60,mt 61 62 6,gt 61 63 (.raw (.binOp .and 21 (t 62) (.const (.int .i32 1)) 21) 21),gt 61 64 (.bin .neq (t 63) (.const (.int .i32 0))),pa 65 61 64] (.cond (t 65) (.ops [m 66 7,o 67 (.raw (.binOp .or 21 (t 66) (.const (.int .i32 4)) 21) 21),m 7 67]) .skip)) (.seq (sq [m 68 4] (.cond (t 68) (.seq (sq [m 69 7,o 70 (.raw (.binOp .and 21 (t 69) (.const (.int .i32 2)) 21) 21),o 71 (.bin .eql (t 70) (.const (.int .i32 0)))] (.cond (t 71) (.ops [o 72 (.raw (.call (.mk (.value (.func 233)) #[(.const (.string (.mk #[115,121,110,99,58,32,105,110,99,111,110,115,105,115,116,101,110,116,32,109,117,116,101,120,32,115,116,97,116,101])))] #[9])) 0)]) .skip)) (.ops [m 73 7,o 74 (.raw (.binOp .andNot 21 (t 73) (.const (.int .i32 2)) 21) 21),m 7 74])) .skip)) (sq [m 75 0,o 76 (.raw (.nilCheck (t 75)) 0),o 77 (.fadr 0 (t 76)),m 78 6,m 79 7,o 80 (.raw (.call (.mk (.value (.func 210)) #[(t 77),(t 78),(t 79)] #[294,21,21])) 4)] (.cond (t 80) (.seq (sq [m 81 6,o 82 (.raw (.binOp .and 21 (t 81) (.const (.int .i32 5)) 21) 21),o 83 (.bin .eql (t 82) (.const (.int .i32 0)))] (.cond (t 83) (.exit 0) .skip)) (sq [m 84 2,bk 85 .neq 84 0,m 8 85] (.seq (sq [m 86 2,bk 87 .eql 86 0] (.cond (t 87) (.ops [o 88 (.raw (.call (.mk (.value (.func 234)) #[] #[])) 2),m 2 88]) .skip)) (sq [m 89 0,o 90 (.raw (.nilCheck (t 89)) 0),o 91 (.fadr 1 (t 90)),m 92 8,o 93 (.raw (.call (.mk (.value (.func 235)) #[(t 91),(t 92),(k 2)] #[249,4,3])) 0)] (sq [m 94 3,m 95 94,gf 95 96 (.raw (.call (.mk (.value (.func 234)) #[] #[])) 2),mf 95 97 2,gf 95 98 (.raw (.binOp .sub 2 (t 96) (t 97) 2) 2),gf 95 99 (.bin .gtr (t 98) (k 1000000)),po 100 95 99,m 3 100] (sq [m 101 0,o 102 (.raw (.nilCheck (t 101)) 0),o 103 (.fadr 0 (t 102)),o 104 (.rawn (.load 21 (t 103)) 21),m 6 104] (.seq (sq [m 105 6,o 106 (.raw (.binOp .and 21 (t 105) (.const (.int .i32 4)) 21) 21),o 107 (.bin .neq (t 106) (.const (.int .i32 0)))] (.cond (t 107) (.seq (sq [m 108 6,o 109 (.raw (.binOp .and 21 (t 108) (.const (.int .i32 3)) 21) 21),o 110 (.bin .neq (t 109) (.const (.int .i32 0))),m 111 110,mf 111 112 6,gf 111 113 (.raw (.binOp .shr 21 (t 112) (.const (.int .u64 3)) 240) 21),gf 111 114 (.bin .eql (t 113) (.const (.int .i32 0))),po 115 111 114] (.cond (t 115) (.ops [o 116 (.raw (.call (.mk (.value (.func 233)) #[(.const (.string (.mk #[115,121,110,99,58,32,105,110,99,111,110,115,105,115,116,101,110,116,32,109,117,116,101,120,32,115,116,97,116,101])))] #[9])) 0)]) .skip)) (sq [o 9 (.mov (.const (.int .i32 (Int.negSucc 6))))] (.seq (sq [m 117 3,o 118 (.not (t 117)),m 119 118,mf 119 120 6,gf 119 121 (.raw (.binOp .shr 21 (t 120) (.const (.int .u64 3)) 240) 21),gf 119 122 (.bin .eql (t 121) (.const (.int .i32 1))),po 123 119 122] (.cond (t 123) (.ops [m 124 9,o 125 (.raw (.binOp .sub 21 (t 124) (.const (.int .i32 4)) 21) 21),m 9 125]) .skip)) (sq [m 126 0,o 127 (.raw (.nilCheck (t 126)) 0),o 128 (.fadr 0 (t 127)),m 129 9,o 130 (.raw (.call (.mk (.value (.func 212)) #[(t 128),(t 129)] #[294,21])) 21)] (.exit 0))))) .skip)) (sq [m1 4] (.ops [mi 5 0]))))))))) (.ops [m 131 0,o 132 (.raw (.nilCheck (t 131)) 0),o 133 (.fadr 0 (t 132)),o 134 (.rawn (.load 21 (t 133)) 21),m 6 134])))))))))))) (.cond k1 (sq [o 135 (.raw (.call (.mk (.value (.func 157)) #[] #[])) 0)] (.ops [m 136 0,o 137 (.raw (.convert 292 244 (t 136)) 244),o 138 (.raw (.call (.mk (.value (.func 170)) #[(t 137)] #[244])) 0)])) .skip)))))))
def r195:List NRes:=[]
theorem c195:IsN Tryz.prog 211 1 n195 r195:=isq [(999999,0)] Tryz.func211
def n197:Zaj:=(.seq (sq [m 5 1,o 6 (.bin .add (t 5) (.const (.int .i32 1))),o 7 (.raw (.binOp .and 21 (t 6) (.const (.int .i32 1)) 21) 21),o 8 (.bin .eql (t 7) (.const (.int .i32 0)))] (.cond (t 8) (.ops [o 9 (.raw (.call (.mk (.value (.func 236)) #[(.const (.string (.mk #[115,121,110,99,58,32,117,110,108,111,99,107,32,111,102,32,117,110,108,111,99,107,101,100,32,109,117,116,101,120])))] #[9])) 0)]) .skip)) (sq [m 10 1,o 11 (.raw (.binOp .and 21 (t 10) (.const (.int .i32 4)) 21) 21),o 12 (.bin .eql (t 11) (.const (.int .i32 0)))] (.cond (t 12) (sq [m 13 1,m 4 13] (.block 0 (.loop (.block 1 (.seq (sq [m 14 4,o 15 (.raw (.binOp .shr 21 (t 14) (.const (.int .u64 3)) 240) 21),o 16 (.bin .eql (t 15) (.const (.int .i32 0))),m 17 16,mf 17 18 4,gf 17 19 (.raw (.binOp .and 21 (t 18) (.const (.int .i32 7)) 21) 21),gf 17 20 (.bin .neq (t 19) (.const (.int .i32 0))),po 21 17 20] (.cond (t 21) .ret .skip)) (sq [m 22 4,o 23 (.raw (.binOp .sub 21 (t 22) (.const (.int .i32 8)) 21) 21),o 24 (.raw (.binOp .or 21 (t 23) (.const (.int .i32 2)) 21) 21),m 1 24] (.seq (sq [m 25 0,o 26 (.raw (.nilCheck (t 25)) 0),o 27 (.fadr 0 (t 26)),m 28 4,m 29 1,o 30 (.raw (.call (.mk (.value (.func 210)) #[(t 27),(t 28),(t 29)] #[294,21,21])) 4)] (.cond (t 30) (sq [m 31 0,o 32 (.raw (.nilCheck (t 31)) 0),o 33 (.fadr 1 (t 32)),o 34 (.raw (.call (.mk (.value (.func 237)) #[(t 33),k0,(k 2)] #[249,4,3])) 0)] .ret) .skip)) (.ops [m 35 0,o 36 (.raw (.nilCheck (t 35)) 0),o 37 (.fadr 0 (t 36)),o 38 (.rawn (.load 21 (t 37)) 21),m 4 38])))))))) (.ops [m 39 0,o 40 (.raw (.nilCheck (t 39)) 0),o 41 (.fadr 1 (t 40)),o 42 (.raw (.call (.mk (.value (.func 237)) #[(t 41),k1,(k 2)] #[249,4,3])) 0)]))))
def r197:List NRes:=[]
theorem c197:IsN Tryz.prog 213 2 n197 r197:=isq [(999999,0)] Tryz.func213
theorem e150:Ext Tryz.prog 155 (Extern.Race.marked .releaseMerge):=⟨Tryz.f155,Tryz.func155,by kernel_rfl,by kernel_rfl,by kernel_rfl,by kernel_rfl⟩
theorem e151:Ext Tryz.prog 156 (fun _=>do mark .disable;pure ZaC):=⟨Tryz.f156,Tryz.func156,by kernel_rfl,by kernel_rfl,by kernel_rfl,by kernel_rfl⟩
theorem e152:Ext Tryz.prog 157 (fun _=>do mark .enable;pure ZaC):=⟨Tryz.f157,Tryz.func157,by kernel_rfl,by kernel_rfl,by kernel_rfl,by kernel_rfl⟩
theorem e153:Ext Tryz.prog 158 (fun _=>pure (.bool false)):=⟨Tryz.f158,Tryz.func158,by kernel_rfl,by kernel_rfl,by kernel_rfl,by kernel_rfl⟩
theorem e158:Ext Tryz.prog 163 (Extern.Race.marked .read):=⟨Tryz.f163,Tryz.func163,by kernel_rfl,by kernel_rfl,by kernel_rfl,by kernel_rfl⟩
theorem e162:Ext Tryz.prog 167 Extern.Sync.semrelease:=⟨Tryz.f167,Tryz.func167,by kernel_rfl,by kernel_rfl,by kernel_rfl,by kernel_rfl⟩
theorem e165:Ext Tryz.prog 170 (Extern.Race.marked .acquire):=⟨Tryz.f170,Tryz.func170,by kernel_rfl,by kernel_rfl,by kernel_rfl,by kernel_rfl⟩
theorem e168:Ext Tryz.prog 173 (Extern.Race.marked .write):=⟨Tryz.f173,Tryz.func173,by kernel_rfl,by kernel_rfl,by kernel_rfl,by kernel_rfl⟩
theorem e169:Ext Tryz.prog 174 Extern.Sync.semacquire:=⟨Tryz.f174,Tryz.func174,by kernel_rfl,by kernel_rfl,by kernel_rfl,by kernel_rfl⟩
theorem e191:Ext Tryz.prog 207 (Extern.Atomic.update (Op.intArith .add) .u64 true):=⟨Tryz.f207,Tryz.func207,by kernel_rfl,by kernel_rfl,by kernel_rfl,by kernel_rfl⟩
theorem e192:Ext Tryz.prog 208 (Extern.Atomic.loadT (.int .u64)):=⟨Tryz.f208,Tryz.func208,by kernel_rfl,by kernel_rfl,by kernel_rfl,by kernel_rfl⟩
theorem e193:Ext Tryz.prog 209 Extern.Atomic.storeT:=⟨Tryz.f209,Tryz.func209,by kernel_rfl,by kernel_rfl,by kernel_rfl,by kernel_rfl⟩
theorem e194:Ext Tryz.prog 210 (Extern.Atomic.casT (.int .i32)):=⟨Tryz.f210,Tryz.func210,by kernel_rfl,by kernel_rfl,by kernel_rfl,by kernel_rfl⟩
theorem e196:Ext Tryz.prog 212 (Extern.Atomic.update (Op.intArith .add) .i32 true):=⟨Tryz.f212,Tryz.func212,by kernel_rfl,by kernel_rfl,by kernel_rfl,by kernel_rfl⟩
theorem e198:Ext Tryz.prog 214 (Extern.Atomic.casT (.int .u64)):=⟨Tryz.f214,Tryz.func214,by kernel_rfl,by kernel_rfl,by kernel_rfl,by kernel_rfl⟩
theorem e208:Ext Tryz.prog 231 Extern.Sync.canSpin:=⟨Tryz.f231,Tryz.func231,by kernel_rfl,by kernel_rfl,by kernel_rfl,by kernel_rfl⟩
theorem e209:Ext Tryz.prog 232 (fun _=>pure ZaC):=⟨Tryz.f232,Tryz.func232,by kernel_rfl,by kernel_rfl,by kernel_rfl,by kernel_rfl⟩
theorem e211:Ext Tryz.prog 234 Extern.OsHooks.nano:=⟨Tryz.f234,Tryz.func234,by kernel_rfl,by kernel_rfl,by kernel_rfl,by kernel_rfl⟩
theorem e212:Ext Tryz.prog 235 Extern.Sync.semacquire:=⟨Tryz.f235,Tryz.func235,by kernel_rfl,by kernel_rfl,by kernel_rfl,by kernel_rfl⟩
theorem e214:Ext Tryz.prog 237 Extern.Sync.semrelease:=⟨Tryz.f237,Tryz.func237,by kernel_rfl,by kernel_rfl,by kernel_rfl,by kernel_rfl⟩
end Go.Proofs
end
section
open Go Go.LL
namespace Go.Proofs
class Tz (P:Prg):Prop where
 prog:P.toProgram=Tryz.prog
theorem isn {P:Prg}[Tz P]{f k:Nat}{n:Zaj}{r:List NRes}(h:IsN Tryz.prog f k n r):IsN P.toProgram f k n r:=by rw[Tz.prog (P:=P)];exact h
theorem und {P:Prg}[Tz P]{t:TypeId}{d:TypeDesc}(h:Tryz.prog.underlying t=some d):P.toProgram.underlying t=some d:=by rw[Tz.prog (P:=P)];exact h
theorem tif {P:Prg}[Tz P]{t:TypeId}{sz:Nat}{z:Value}{b:Nat}(h:tiOf Tryz.prog t=some (sz,some z,b)):TI P.toProgram t sz z b:=by rw[Tz.prog (P:=P)];exact ti_of h
theorem agf {P:Prg}[Tz P]{t:TypeId}{n:Option Nat}(h:Zb5 Tryz.prog t=some n):Zb5 P.toProgram t=some n:=by rw[Tz.prog (P:=P)];exact h
def bodyB (p:Program)(f:FuncId):Bool:=match p.funcs[f]? with | some fn=>fn.body.isSome && !(fn.name == "runtime.NumGoroutine") | none=>false
theorem ZcY {P:Prg}[Tz P]{f:FuncId}{first cap args:Array Value}{H:Hp}{Post:Value->Hp->Prop}(hb:bodyB Tryz.prog f=true)(h:LL.Zag P f (first++args++cap) H Post):CallV P (.func (.func f) first cap) args H Post:=by
 unfold bodyB at hb
 split at hb
 ·rename_i fn hf
  simp only[Bool.and_eq_true,Bool.not_eq_true']at hb
  exact CallV.of (by rw[Tz.prog (P:=P)];exact hf) hb.1 hb.2 h
 ·simp at hb
abbrev vi (n:Int):Value:=.int .i64 n
abbrev vb (b:Bool):Value:=.bool b
abbrev vf (f:Nat):Value:=.func (.func f) #[] #[]
theorem u178:Tryz.prog.underlying 234=some (.array 3 233):=by kernel_rfl
theorem t177:tiOf Tryz.prog 233=some (1,some .nilFunc,8):=by kernel_rfl
theorem a177:Zb5 Tryz.prog 233=some none:=by kernel_rfl
theorem u34:Tryz.prog.underlying 29=some (.slice 3):=by kernel_rfl
theorem t3:tiOf Tryz.prog 3=some (1,some (vi 0),8):=by kernel_rfl
theorem a3:Zb5 Tryz.prog 3=some none:=by kernel_rfl
class Enc (α:Type) where
 sz:Nat
 enc:α->List Value
 len:∀ a,(enc a).length=sz
def encs {α:Type}[Enc α](l:List α):List Value:=l.flatMap Enc.enc
theorem Zck {α:Type}[Enc α]:∀ l:List α,(encs l).length=l.length * Enc.sz α
 | []=>by simp[encs]
 | a :: l=>by
  have:=Zck l
  simp only[encs,List.flatMap_cons,List.length_append,Enc.len,List.length_cons]at this ⊢
  rw[this,Nat.succ_mul];omega
theorem Zjv {α:Type}[Enc α]:∀ (l:List α) (i j:Nat) (hi:i<l.length),j<Enc.sz α->(encs l)[i * Enc.sz α+j]? = (Enc.enc l[i])[j]?
 | [],i,j,hi,_=>by simp at hi
 | a :: l,0,j,hi,hj=>by
  simp only[encs,List.flatMap_cons,Nat.zero_mul,Nat.zero_add,List.getElem_cons_zero]
  rw[List.getElem?_append_left (by rw[Enc.len];exact hj)]
 | a :: l,i+1,j,hi,hj=>by
  have:=Zjv l i j (by simpa using hi) hj
  simp only[encs,List.flatMap_cons,List.getElem_cons_succ]at this ⊢
  rw[List.getElem?_append_right (by rw[Enc.len,Nat.succ_mul];omega),Enc.len,<-this]
  congr 1
  rw[Nat.succ_mul];omega
def SlAt {α:Type}[Enc α](H:Hp)(v:Value)(l:List α):Prop:=∃ A c,v=.slice A l.length c∧(l≠[]->∃ a,A=some a∧CellsAt H a (encs l))
theorem _root_.Go.LL.CellsAt.sub {H H':Hp}{a:Addr}{cs:List Value}(h:CellsAt H a cs)(hs:H.Sub H'):CellsAt H' a cs:=by
 obtain⟨h1,o,p,h2,h3⟩:=h
 exact⟨h1,o,p,hs.mem _ _ h2,h3⟩
theorem SlAt.sub {α:Type}[Enc α]{H H':Hp}{v:Value}{l:List α}(h:SlAt H v l)(hs:H.Sub H'):SlAt H' v l:=by
 obtain⟨A,c,h1,h2⟩:=h
 refine⟨A,c,h1,fun hn=>?_⟩
 obtain⟨a,h3,h4⟩:=h2 hn
 exact⟨a,h3,h4.sub hs⟩
theorem SlAt.nil {α:Type}[Enc α](H:Hp):SlAt H (.slice none 0 0) ([]:List α):=⟨none,0,rfl,fun h=>absurd rfl h⟩
theorem Zc0 (a:Addr)(n:Nat):(a.add n).off=a.off+n:=by
 unfold Addr.add
 split
 ·subst n;rfl
 ·rfl
theorem ZbM (a:Addr)(n:Nat):(a.add n).block=a.block:=by
 unfold Addr.add
 split<;>rfl
theorem Zdp {a:Addr}(h:a.spot=none)(n:Nat):(a.add n).spot=none:=by
 unfold Addr.add
 split
 ·exact h
 ·rfl
theorem _root_.Go.LL.CellsAt.row {α:Type}[Enc α]{H:Hp}{a:Addr}{l:List α}(h:CellsAt H a (encs l)){i:Nat}(hi:i<l.length):CellsAt H (a.add (i * Enc.sz α)) (Enc.enc l[i]):=by
 obtain⟨h1,o,p,h2,h3⟩:=h
 refine⟨Zdp h1 _,o,p,by rw[ZbM];exact h2,fun j hj=>?_⟩
 rw[Enc.len]at hj
 rw[Zc0,Nat.add_assoc,h3 _ (by
  rw[Zck]
  have:(i+1) * Enc.sz α<=l.length * Enc.sz α:=Nat.mul_le_mul_right _ hi
  rw[Nat.succ_mul]at this;omega),Zjv l i j hi hj]
section
variable  {P:Prg}{d:Option Nat}{next:NSt->Hp->Prop}{σ:NSt}{H:Hp}{x y:Operand}{v:Value}
theorem ZaE {α:Type}[Enc α]{l:List α}{esz i:Nat}{k:IntKind}(hs:SlAt H v l)(e1:σ.get x=some v)(e2:σ.get y=some (.int k (i:Int)))(he:Enc.sz α=esz)(hi:i<l.length)(h:∀ a,CellsAt H a (Enc.enc l[i])->next (σ.set d (.pointer (some a))) H):(NOp.iadr esz x y).m P d next σ H:=by
 obtain⟨A,c,rfl,h2⟩:=hs
 obtain⟨a,rfl,hc⟩:=h2 (by rintro rfl;simp at hi)
 subst he
 exact ZcV e1 e2 hi (h _ (hc.row hi))
theorem Zau {α:Type}[Enc α]{l:List α}(hs:SlAt H v l)(e:σ.get x=some v)(h:next (σ.set d (.int .i64 (l.length:Int))) H):(NOp.len x).m P d next σ H:=by
 obtain⟨A,c,rfl,h2⟩:=hs
 exact Zit e h
end
instance:Enc Int:=⟨1,fun n=>[vi n],fun _=>rfl⟩
instance:Enc Value:=⟨1,fun v=>[v],fun _=>rfl⟩
structure SPt where
 (ml mh bl bh w:Int)
structure SCk where
 (p gl gh:Int)
structure Bk where
 (op sl:Int)
 (pts:List SPt)
 (cks:List SCk)
instance:Enc SPt:=⟨5,fun p=>[vi p.ml,vi p.mh,vi p.bl,vi p.bh,vi p.w],fun _=>rfl⟩
instance:Enc SCk:=⟨3,fun c=>[vi c.p,vi c.gl,vi c.gh],fun _=>rfl⟩
def BkAt (H:Hp)(v:Value)(b:Bk):Prop:=∃ pv cv,v=.agg #[vi b.op,vi b.sl,pv,cv]∧SlAt H pv b.pts∧SlAt H cv b.cks
theorem BkAt.sub {H H':Hp}{v:Value}{b:Bk}(h:BkAt H v b)(hs:H.Sub H'):BkAt H' v b:=by
 obtain⟨pv,cv,h1,h2,h3⟩:=h
 exact⟨pv,cv,h1,h2.sub hs,h3.sub hs⟩
end Go.Proofs
end
