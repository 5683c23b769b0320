import Derived.Test.YthmnpenamnoniaaGreatDoorP06
import Derived.Test.YthmnpenamnoniaaGreatDoorP07
import Derived.Test.YthmnpenamnoniaaGreatDoorP13
import Derived.KernelRfl
import Derived.Test.YthmnpenamnoniaaGreatDoorProg
set_option linter.all false
section
open Go Go.LL
namespace Go.Z
instance (n:Nat):OfNat Operand n:=⟨.tmp n⟩
instance:Coe NI (NI×Option Bool):=⟨λx=>(x,none)⟩
abbrev k(n:Int):Operand:=.const (.int .i64 n)
abbrev k0:Operand:=.const (.bool false)
abbrev k1:Operand:=.const (.bool true)
abbrev z0:Value:=.int .i64 0
abbrev s0:Value:=.slice none 0 0
abbrev o(d:Nat)(x:aR):NI:=⟨none,some d,x⟩
abbrev u(x:aR):NI:=⟨none,none,x⟩
abbrev gf(g d:Nat)(x:aR):NI:=⟨some (g,false),some d,x⟩
abbrev gt(g d:Nat)(x:aR):NI:=⟨some (g,true),some d,x⟩
abbrev m(d a:Nat):NI:=⟨none,some d,.cV (.tmp a)⟩
abbrev mf(g d a:Nat):NI:=⟨some (g,false),some d,.cV (.tmp a)⟩
abbrev mt(g d a:Nat):NI:=⟨some (g,true),some d,.cV (.tmp a)⟩
abbrev mi(d:Nat)(n:Int):NI:=⟨none,some d,.cV (.const (.int .i64 n))⟩
abbrev m0(d:Nat):NI:=⟨none,some d,.cV (.const (.bool false))⟩
abbrev m1(d:Nat):NI:=⟨none,some d,.cV (.const (.bool true))⟩
abbrev x(d a i:Nat):NI:=⟨none,some d,.ext (.tmp a) i⟩
abbrev l(d a b c:Nat):NI:=⟨none,some d,.cY a (some b) c⟩
abbrev ln(d a b:Nat):NI:=⟨none,some d,.cY a none b⟩
abbrev f(d a b:Nat):NI:=⟨none,some d,.aV a b⟩
abbrev ia(d e a b:Nat):NI:=⟨none,some d,.bX e (.tmp a) (.tmp b)⟩
abbrev c0(d f:Nat):NI:=⟨none,some d,.call f []⟩
abbrev c1(d f a:Nat):NI:=⟨none,some d,.call f [.tmp a]⟩
abbrev c2(d f a b:Nat):NI:=⟨none,some d,.call f [.tmp a,.tmp b]⟩
abbrev c3(d f a b c:Nat):NI:=⟨none,some d,.call f [.tmp a,.tmp b,.tmp c]⟩
abbrev ls(a b c x:Nat):NI:=⟨none,none,.kE a b c (.tmp x)⟩
abbrev ld(d a:Nat):NI:=⟨none,some d,.ld none (.tmp a)⟩
abbrev lm(d n a:Nat):NI:=⟨none,some d,.ld (some n) (.tmp a)⟩
abbrev le(d a:Nat):NI:=⟨none,some d,.len (.tmp a)⟩
abbrev b(d:Nat)(p:BinOp)(x y:Nat):NI:=⟨none,some d,.bC p (.tmp x) (.tmp y)⟩
abbrev bk(d:Nat)(p:BinOp)(x:Nat)(n:Int):NI:=⟨none,some d,.bC p (.tmp x) (.const (.int .i64 n))⟩
abbrev po(d x y:Nat):NI:=⟨none,some d,.pick (.tmp x) (.const (.bool true)) (.tmp y)⟩
abbrev pa(d x y:Nat):NI:=⟨none,some d,.pick (.tmp x) (.tmp y) (.const (.bool false))⟩
abbrev st(e x y r:Nat):NI:=⟨none,none,.raw (.store e (.tmp x) (.tmp y)) r⟩
abbrev sq(l:List NI)(c:Zb):Zb:=.seq (.aG l) c
abbrev cr(d:Operand)(l:List NI):Zb:=.cond d (sq l .ret) .skip
abbrev fo(n:Nat)(d:Operand)(h:List NI)(m:Nat)(x y:Zb):Zb:=.block n (.loop (.seq (sq h (.cond d .skip (.exit n))) (.seq (.block m x) y)))
abbrev fp(n:Nat)(d:Operand)(h:List NI)(m:Nat)(x y:Zb):Zb:=.block n (.loop (sq h (.seq (.cond d .skip (.exit n)) (.seq (.block m x) y))))
abbrev ic(a b i:Nat):Zb:=.aG [m a i,bk b .add a 1,m i b]
abbrev S(x y:Zb):Zb:=.seq x y
abbrev B(n:Nat)(x:Zb):Zb:=.block n x
abbrev N(d:Operand)(x y:Zb):Zb:=.cond d x y
abbrev eB(f:Nat)(a:Array Operand)(t:Array TypeId)(r:Nat):aR:=.raw (.call (.mk (.value (.func f)) a t)) r
abbrev eU(n:Int):Operand:=.const (.int .u64 n)
abbrev kvq(n:Int):Operand:=.const (.int .u8 n)
abbrev eG(n:Int):Operand:=.const (.int .i32 n)
abbrev fL(d a:Nat):NI:=⟨none,some d,.raw (.nilCheck (.tmp a)) 0⟩
abbrev kV(a b c d:Nat):aR:=.raw (.convert a b (.tmp c)) d
end Go.Z
end
section
open Go Go.LL
namespace Go.LL
def bE{P:Program}{f:FuncId}{k:Nat}{n:Zb}{b:List Zc}{fn:Func}(L:List (Nat×Nat))(h:P.funcs[f]? = some fn)(c:fn.body.bind (Yc P L fn.ntmps ⟨true,fn.norace⟩)=some n:=by kernel_rfl)(e:tC P L fn.results.toList=some b:=by kernel_rfl)(g:((L.all λp=>decide (k<=p.1)) && decide (k<=fn.ntmps) && (!(kM L) || fn.norace))=true:=by kernel_rfl):aI P f k n b:=⟨fn,L,h,c,e,g⟩
end Go.LL
end
open Go Go.LL Go Go.LL
namespace Go.Proofs
section
open Go.Z
def LN:Zb:=(S (N k1 (S (sq [m 9 1,bk 10 .lss 9 0] (N 10 (.aG [m 11 0,o 12 (kV 242 244 11 244),o 13 (eB 155 #[12] #[244] 0)]) .skip)) (sq [o 14 (eB 156 #[] #[] 0)] (.aG [u (.raw (.defer (.mk (.value (.func 157)) #[] #[])) 0)]))) .skip) (sq [m0 4] (S (sq [o 15 (eB 158 #[] #[] 4)] (N 15 (sq [m 16 0,o 17 (eB 159 #[16] #[242] 245)] (B 0 (sq [bk 19 .eql 17 0,m 18 19] (N 18 .skip (sq [bk 21 .eql 17 2,m 20 21] (N 20 (.aG [o 22 (.raw (.call (.mk (.value (.func 160)) #[(.const (.string (.mk #[115,121,110,99,58,32,87,97,105,116,71,114,111,117,112,46,65,100,100,32,99,97,108,108,101,100,32,102,114,111,109,32,109,117,108,116,105,112,108,101,32,115,121,110,99,116,101,115,116,32,98,117,98,98,108,101,115])))] #[9])) 0)]) (sq [bk 24 .eql 17 1,m 23 24] (N 23 (sq [m1 4] (sq [m 25 0,fL 26 25,o 27 (.aU 0 26),o 28 (.call 161 [27,(eU 2147483648)]),m 5 28] (sq [m 29 5,o 30 (.bC .neq 29 (eU 0)),m 31 30,mt 31 32 5,gt 31 33 (.raw (.binOp .and 189 32 (eU 2147483648) 189) 189),gt 31 34 (.bC .eql 33 (eU 0)),pa 35 31 34] (N 35 (.aG [o 36 (.raw (.call (.mk (.value (.func 160)) #[(.const (.string (.mk #[115,121,110,99,58,32,87,97,105,116,71,114,111,117,112,46,65,100,100,32,99,97,108,108,101,100,32,102,114,111,109,32,105,110,115,105,100,101,32,97,110,100,32,111,117,116,115,105,100,101,32,115,121,110,99,116,101,115,116,32,98,117,98,98,108,101])))] #[9])) 0)]) .skip)))) .skip)))))))) .skip)) (sq [m 37 0,fL 38 37,o 39 (.aU 0 38),m 40 1,o 41 (kV 3 189 40 189),o 42 (.raw (.binOp .shl 189 41 (eU 32) 240) 189),c2 43 162 39 42,m 6 43] (S (sq [m 44 6,o 45 (.raw (.binOp .and 189 44 (eU 2147483648) 189) 189),o 46 (.bC .neq 45 (eU 0)),m 47 46,mt 47 48 4,gt 47 49 (.not 48),pa 50 47 49] (N 50 (.aG [o 51 (.raw (.call (.mk (.value (.func 160)) #[(.const (.string (.mk #[115,121,110,99,58,32,87,97,105,116,71,114,111,117,112,46,65,100,100,32,99,97,108,108,101,100,32,102,114,111,109,32,105,110,115,105,100,101,32,97,110,100,32,111,117,116,115,105,100,101,32,115,121,110,99,116,101,115,116,32,98,117,98,98,108,101])))] #[9])) 0)]) .skip)) (sq [m 52 6,o 53 (.raw (.binOp .shr 189 52 (eU 32) 240) 189),o 54 (kV 189 21 53 21),m 7 54] (sq [m 55 6,o 56 (.raw (.binOp .and 189 55 (eU 2147483647) 189) 189),o 57 (kV 189 182 56 182),m 8 57] (S (sq [m1 58,mt 58 59 1,gt 58 60 (.bC .gtr 59 (k 0)),pa 61 58 60,m 62 61,mt 62 63 7,mt 62 64 1,gt 62 65 (kV 3 21 64 21),gt 62 66 (.bC .eql 63 65),pa 67 62 66] (N 67 (.aG [m 68 0,fL 69 68,o 70 (.aU 1 69),o 71 (kV 249 244 70 244),o 72 (eB 163 #[71] #[244] 0)]) .skip)) (S (sq [m 73 7,o 74 (.bC .lss 73 (eG 0))] (N 74 (.aG [o 75 (.raw (.makeInterface 9 (.const (.string (.mk #[115,121,110,99,58,32,110,101,103,97,116,105,118,101,32,87,97,105,116,71,114,111,117,112,32,99,111,117,110,116,101,114])))) 20),u (.raw (.panic 75) 0)]) .skip)) (S (sq [m 76 8,o 77 (.bC .neq 76 (.const (.int .u32 0))),m 78 77,mt 78 79 1,gt 78 80 (.bC .gtr 79 (k 0)),pa 81 78 80,m 82 81,mt 82 83 7,mt 82 84 1,gt 82 85 (kV 3 21 84 21),gt 82 86 (.bC .eql 83 85),pa 87 82 86] (N 87 (.aG [o 88 (.raw (.makeInterface 9 (.const (.string (.mk #[115,121,110,99,58,32,87,97,105,116,71,114,111,117,112,32,109,105,115,117,115,101,58,32,65,100,100,32,99,97,108,108,101,100,32,99,111,110,99,117,114,114,101,110,116,108,121,32,119,105,116,104,32,87,97,105,116])))) 20),u (.raw (.panic 88) 0)]) .skip)) (S (sq [m 89 7,o 90 (.bC .gtr 89 (eG 0)),m 91 90,mf 91 92 8,gf 91 93 (.bC .eql 92 (.const (.int .u32 0))),po 94 91 93] (N 94 .ret .skip)) (S (sq [m 95 0,fL 96 95,o 97 (.aU 0 96),c1 98 164 97,m 99 6,b 100 .neq 98 99] (N 100 (.aG [o 101 (.raw (.makeInterface 9 (.const (.string (.mk #[115,121,110,99,58,32,87,97,105,116,71,114,111,117,112,32,109,105,115,117,115,101,58,32,65,100,100,32,99,97,108,108,101,100,32,99,111,110,99,117,114,114,101,110,116,108,121,32,119,105,116,104,32,87,97,105,116])))) 20),u (.raw (.panic 101) 0)]) .skip)) (sq [m 102 0,fL 103 102,o 104 (.aU 0 103),o 105 (.call 165 [104,(eU 0)])] (S (sq [m 106 4] (N 106 (.aG [m 107 0,o 108 (eB 166 #[107] #[242] 0)]) .skip)) (fo 1 110 [m 109 8,o 110 (.bC .neq 109 (.const (.int .u32 0)))] 2 (.aG [m 113 0,fL 114 113,o 115 (.aU 1 114),o 116 (eB 167 #[115,k0,(k 0)] #[249,4,3] 0)]) (.aG [m 111 8,o 112 (.raw (.binOp .sub 182 111 (.const (.int .u32 1)) 182) 182),m 8 112]))))))))))))))))
def Zst:List Zc:=[]
def WB:aI Tryz.prog 102 2 LN Zst:=bE [(999999,0)] Tryz.func102
def Fq:Zb:=(.aG [m 2 0,o 3 (.call 102 [2,(.const (.int .i64 (Int.negSucc 0)))])])
def Zsr:List Zc:=[]
def ZyE:aI Tryz.prog 104 1 Fq Zsr:=bE [(999999,0)] Tryz.func104
def Ft:Zb:=(.aG [m 2 0,fL 3 2,o 4 (.aU 0 3),c1 5 168 4])
def Zsp:List Zc:=[]
def ZyC:aI Tryz.prog 106 1 Ft Zsp:=bE [(999999,0)] Tryz.func106
def Ds:Zb:=(.aG [m 2 0,fL 3 2,o 4 (.aU 0 3),c1 5 169 4])
def Zsj:List Zc:=[]
def Zyw:aI Tryz.prog 107 1 Ds Zsj:=bE [(999999,0)] Tryz.func107
def Ea:Zb:=(S (N k1 (.aG [o 7 (eB 156 #[] #[] 0)]) .skip) (B 0 (.loop (B 1 (sq [m 8 0,fL 9 8,o 10 (.aU 0 9),c1 11 164 10,m 2 11] (sq [m 12 2,o 13 (.raw (.binOp .shr 189 12 (eU 32) 240) 189),o 14 (kV 189 21 13 21),m 3 14] (sq [m 15 2,o 16 (.raw (.binOp .and 189 15 (eU 2147483647) 189) 189),o 17 (kV 189 182 16 182),m 4 17] (S (sq [m 18 3,o 19 (.bC .eql 18 (eG 0))] (N 19 (S (N k1 (sq [o 20 (eB 157 #[] #[] 0)] (.aG [m 21 0,o 22 (kV 242 244 21 244),o 23 (eB 170 #[22] #[244] 0)])) .skip) (S (sq [m 24 4,o 25 (.bC .eql 24 (.const (.int .u32 0))),m 26 25,mt 26 27 2,gt 26 28 (.raw (.binOp .and 189 27 (eU 2147483648) 189) 189),gt 26 29 (.bC .neq 28 (eU 0)),pa 30 26 29,m 31 30,mt 31 32 0,gt 31 33 (eB 171 #[32] #[242] 4),pa 34 31 33] (N 34 (sq [m 35 0,fL 36 35,o 37 (.aU 0 36),m 38 2,o 39 (.call 172 [37,38,(eU 0)])] (N 39 (.aG [m 40 0,o 41 (eB 166 #[40] #[242] 0)]) .skip)) .skip)) .ret)) .skip)) (sq [m 42 0,fL 43 42,o 44 (.aU 0 43),m 45 2,m 46 2,o 47 (.bC .add 46 (eU 1)),c3 48 172 44 45 47] (N 48 (S (sq [m1 49,mt 49 50 4,gt 49 51 (.bC .eql 50 (.const (.int .u32 0))),pa 52 49 51] (N 52 (.aG [m 53 0,fL 54 53,o 55 (.aU 1 54),o 56 (kV 249 244 55 244),o 57 (eB 173 #[56] #[244] 0)]) .skip)) (sq [m0 5] (S (sq [m 58 2,o 59 (.raw (.binOp .and 189 58 (eU 2147483648) 189) 189),o 60 (.bC .neq 59 (eU 0)),m 61 60,gt 61 62 (eB 158 #[] #[] 4),pa 63 61 62] (N 63 (S (N k1 (.aG [o 64 (eB 157 #[] #[] 0)]) .skip) (S (sq [m 65 0,o 66 (eB 171 #[65] #[242] 4)] (N 66 (.aG [m1 5]) .skip)) (N k1 (.aG [o 67 (eB 156 #[] #[] 0)]) .skip))) .skip)) (sq [m 68 0,fL 69 68,o 70 (.aU 1 69),m 71 5,o 72 (eB 174 #[70,71] #[249,4] 0)] (sq [m 73 0,fL 74 73,o 75 (.aU 0 74),c1 76 164 75,o 77 (.bC .neq 76 (eU 0)),m 6 77] (S (N k1 (sq [o 78 (eB 157 #[] #[] 0)] (.aG [m 79 0,o 80 (kV 242 244 79 244),o 81 (eB 170 #[80] #[244] 0)])) .skip) (S (sq [m 82 6] (N 82 (.aG [o 83 (.raw (.makeInterface 9 (.const (.string (.mk #[115,121,110,99,58,32,87,97,105,116,71,114,111,117,112,32,105,115,32,114,101,117,115,101,100,32,98,101,102,111,114,101,32,112,114,101,118,105,111,117,115,32,87,97,105,116,32,104,97,115,32,114,101,116,117,114,110,101,100])))) 20),u (.raw (.panic 83) 0)]) .skip)) .ret))))))) .skip))))))))))
def Zsb:List Zc:=[]
def Zyo:aI Tryz.prog 108 1 Ea Zsb:=bE [(999999,0)] Tryz.func108
def Ij:Zb:=(sq [o 4 (.cV (eU 0))] (sq [m 5 0,fL 6 5,o 7 (.aU 0 6),m 8 1,o 9 (eB 207 #[7,8] #[289,189] 189),m 4 9] .ret))
def Zru:List Zc:=[(.aK 4)]
def ZxJ:aI Tryz.prog 162 2 Ij Zru:=bE [(999999,0)] Tryz.func162
def Ik:Zb:=(sq [o 2 (.cV (eU 0))] (sq [m 3 0,fL 4 3,o 5 (.aU 0 4),o 6 (eB 208 #[5] #[289] 189),m 2 6] .ret))
def Zrt:List Zc:=[(.aK 2)]
def ZxI:aI Tryz.prog 164 1 Ik Zrt:=bE [(999999,0)] Tryz.func164
def Il:Zb:=(.aG [m 4 0,fL 5 4,o 6 (.aU 0 5),m 7 1,o 8 (eB 209 #[6,7] #[289,189] 0)])
def Zrs:List Zc:=[]
def ZxH:aI Tryz.prog 165 2 Il Zrs:=bE [(999999,0)] Tryz.func165
def Im:Zb:=(sq [o 2 (eB 156 #[] #[] 0)] (S (sq [m 3 0,fL 4 3,o 5 (.aU 0 4),o 6 (eB 210 #[5,(eG 0),(eG 1)] #[294,21,21] 4)] (N 6 (S (N k1 (sq [o 7 (eB 157 #[] #[] 0)] (.aG [m 8 0,o 9 (kV 292 244 8 244),o 10 (eB 170 #[9] #[244] 0)])) .skip) .ret) .skip)) (.aG [m 11 0,c1 12 211 11])))
def Zrr:List Zc:=[]
def ZxG:aI Tryz.prog 168 1 Im Zrr:=bE [(999999,0)] Tryz.func168
def Ip:Zb:=(S (N k1 (sq [m 3 0,fL 4 3,o 5 (.aU 0 4),o 6 (.eQ (.load 21 5) 21)] (sq [m 7 0,o 8 (kV 292 244 7 244),o 9 (eB 155 #[8] #[244] 0)] (.aG [o 10 (eB 156 #[] #[] 0)]))) .skip) (sq [m 11 0,fL 12 11,o 13 (.aU 0 12),o 14 (eB 212 #[13,(.const (.int .i32 (Int.negSucc 0)))] #[294,21] 21),m 2 14] (S (sq [m 15 2,o 16 (.bC .neq 15 (eG 0))] (N 16 (.aG [m 17 0,m 18 2,c2 19 213 17 18]) .skip)) (.aG [o 20 (eB 157 #[] #[] 0)]))))
def Mt:List Zc:=[]
def ZxF:aI Tryz.prog 169 1 Ip Mt:=bE [(999999,0)] Tryz.func169
def Iq:Zb:=(sq [m0 6] (sq [m 7 0,fL 8 7,o 9 (.aU 0 8),m 10 1,m 11 2,o 12 (eB 214 #[9,10,11] #[289,189,189] 4),m 6 12] .ret))
def Zrq:List Zc:=[(.aK 6)]
def ZxE:aI Tryz.prog 172 3 Iq Zrq:=bE [(999999,0)] Tryz.func172
def Gv:Zb:=(sq [mi 2 0] (sq [m0 3] (sq [m0 4] (sq [mi 5 0] (sq [m 10 0,fL 11 10,o 12 (.aU 0 11),o 13 (.eQ (.load 21 12) 21),m 6 13] (S (B 0 (.loop (B 1 (S (sq [m 14 6,o 15 (.raw (.binOp .and 21 14 (eG 5) 21) 21),o 16 (.bC .eql 15 (eG 1)),m 17 16,mt 17 18 5,gt 17 19 (eB 231 #[18] #[3] 4),pa 20 17 19] (N 20 (S (sq [m 21 4,o 22 (.not 21),m 23 22,mt 23 24 6,gt 23 25 (.raw (.binOp .and 21 24 (eG 2) 21) 21),gt 23 26 (.bC .eql 25 (eG 0)),pa 27 23 26,m 28 27,mt 28 29 6,gt 28 30 (.raw (.binOp .shr 21 29 (eU 3) 240) 21),gt 28 31 (.bC .neq 30 (eG 0)),pa 32 28 31,m 33 32,mt 33 34 0,gt 33 35 (.raw (.nilCheck 34) 0),gt 33 36 (.aU 0 35),mt 33 37 6,mt 33 38 6,gt 33 39 (.raw (.binOp .or 21 38 (eG 2) 21) 21),gt 33 40 (eB 210 #[36,37,39] #[294,21,21] 4),pa 41 33 40] (N 41 (.aG [m1 4]) .skip)) (sq [o 42 (eB 232 #[] #[] 0)] (sq [m 43 5,bk 44 .add 43 1,m 5 44] (sq [m 45 0,fL 46 45,o 47 (.aU 0 46),o 48 (.eQ (.load 21 47) 21),m 6 48] (.exit 1))))) .skip)) (sq [m 49 6,m 7 49] (S (sq [m 50 6,o 51 (.raw (.binOp .and 21 50 (eG 4) 21) 21),o 52 (.bC .eql 51 (eG 0))] (N 52 (.aG [m 53 7,o 54 (.raw (.binOp .or 21 53 (eG 1) 21) 21),m 7 54]) .skip)) (S (sq [m 55 6,o 56 (.raw (.binOp .and 21 55 (eG 5) 21) 21),o 57 (.bC .neq 56 (eG 0))] (N 57 (.aG [m 58 7,o 59 (.bC .add 58 (eG 8)),m 7 59]) .skip)) (S (sq [m 60 3,m 61 60,mt 61 62 6,gt 61 63 (.raw (.binOp .and 21 62 (eG 1) 21) 21),gt 61 64 (.bC .neq 63 (eG 0)),pa 65 61 64] (N 65 (.aG [m 66 7,o 67 (.raw (.binOp .or 21 66 (eG 4) 21) 21),m 7 67]) .skip)) (S (sq [m 68 4] (N 68 (S (sq [m 69 7,o 70 (.raw (.binOp .and 21 69 (eG 2) 21) 21),o 71 (.bC .eql 70 (eG 0))] (N 71 (.aG [o 72 (.raw (.call (.mk (.value (.func 233)) #[(.const (.string (.mk #[115,121,110,99,58,32,105,110,99,111,110,115,105,115,116,101,110,116,32,109,117,116,101,120,32,115,116,97,116,101])))] #[9])) 0)]) .skip)) (.aG [m 73 7,o 74 (.raw (.binOp .andNot 21 73 (eG 2) 21) 21),m 7 74])) .skip)) (sq [m 75 0,fL 76 75,o 77 (.aU 0 76),m 78 6,m 79 7,o 80 (eB 210 #[77,78,79] #[294,21,21] 4)] (N 80 (S (sq [m 81 6,o 82 (.raw (.binOp .and 21 81 (eG 5) 21) 21),o 83 (.bC .eql 82 (eG 0))] (N 83 (.exit 0) .skip)) (sq [m 84 2,bk 85 .neq 84 0,m 8 85] (S (sq [m 86 2,bk 87 .eql 86 0] (N 87 (.aG [o 88 (eB 234 #[] #[] 2),m 2 88]) .skip)) (sq [m 89 0,fL 90 89,o 91 (.aU 1 90),m 92 8,o 93 (eB 235 #[91,92,(k 2)] #[249,4,3] 0)] (sq [m 94 3,m 95 94,gf 95 96 (eB 234 #[] #[] 2),mf 95 97 2,gf 95 98 (.raw (.binOp .sub 2 96 97 2) 2),gf 95 99 (.bC .gtr 98 (k 1000000)),po 100 95 99,m 3 100] (sq [m 101 0,fL 102 101,o 103 (.aU 0 102),o 104 (.eQ (.load 21 103) 21),m 6 104] (S (sq [m 105 6,o 106 (.raw (.binOp .and 21 105 (eG 4) 21) 21),o 107 (.bC .neq 106 (eG 0))] (N 107 (S (sq [m 108 6,o 109 (.raw (.binOp .and 21 108 (eG 3) 21) 21),o 110 (.bC .neq 109 (eG 0)),m 111 110,mf 111 112 6,gf 111 113 (.raw (.binOp .shr 21 112 (eU 3) 240) 21),gf 111 114 (.bC .eql 113 (eG 0)),po 115 111 114] (N 115 (.aG [o 116 (.raw (.call (.mk (.value (.func 233)) #[(.const (.string (.mk #[115,121,110,99,58,32,105,110,99,111,110,115,105,115,116,101,110,116,32,109,117,116,101,120,32,115,116,97,116,101])))] #[9])) 0)]) .skip)) (sq [o 9 (.cV (.const (.int .i32 (Int.negSucc 6))))] (S (sq [m 117 3,o 118 (.not 117),m 119 118,mf 119 120 6,gf 119 121 (.raw (.binOp .shr 21 120 (eU 3) 240) 21),gf 119 122 (.bC .eql 121 (eG 1)),po 123 119 122] (N 123 (.aG [m 124 9,o 125 (.raw (.binOp .sub 21 124 (eG 4) 21) 21),m 9 125]) .skip)) (sq [m 126 0,fL 127 126,o 128 (.aU 0 127),m 129 9,o 130 (eB 212 #[128,129] #[294,21] 21)] (.exit 0))))) .skip)) (sq [m1 4] (.aG [mi 5 0]))))))))) (.aG [m 131 0,fL 132 131,o 133 (.aU 0 132),o 134 (.eQ (.load 21 133) 21),m 6 134])))))))))))) (N k1 (sq [o 135 (eB 157 #[] #[] 0)] (.aG [m 136 0,o 137 (kV 292 244 136 244),o 138 (eB 170 #[137] #[244] 0)])) .skip)))))))
def Zq8:List Zc:=[]
def Zxm:aI Tryz.prog 211 1 Gv Zq8:=bE [(999999,0)] Tryz.func211
def Gw:Zb:=(S (sq [m 5 1,o 6 (.bC .add 5 (eG 1)),o 7 (.raw (.binOp .and 21 6 (eG 1) 21) 21),o 8 (.bC .eql 7 (eG 0))] (N 8 (.aG [o 9 (.raw (.call (.mk (.value (.func 236)) #[(.const (.string (.mk #[115,121,110,99,58,32,117,110,108,111,99,107,32,111,102,32,117,110,108,111,99,107,101,100,32,109,117,116,101,120])))] #[9])) 0)]) .skip)) (sq [m 10 1,o 11 (.raw (.binOp .and 21 10 (eG 4) 21) 21),o 12 (.bC .eql 11 (eG 0))] (N 12 (sq [m 13 1,m 4 13] (B 0 (.loop (B 1 (S (sq [m 14 4,o 15 (.raw (.binOp .shr 21 14 (eU 3) 240) 21),o 16 (.bC .eql 15 (eG 0)),m 17 16,mf 17 18 4,gf 17 19 (.raw (.binOp .and 21 18 (eG 7) 21) 21),gf 17 20 (.bC .neq 19 (eG 0)),po 21 17 20] (N 21 .ret .skip)) (sq [m 22 4,o 23 (.raw (.binOp .sub 21 22 (eG 8) 21) 21),o 24 (.raw (.binOp .or 21 23 (eG 2) 21) 21),m 1 24] (S (sq [m 25 0,fL 26 25,o 27 (.aU 0 26),m 28 4,m 29 1,o 30 (eB 210 #[27,28,29] #[294,21,21] 4)] (cr 30 [m 31 0,fL 32 31,o 33 (.aU 1 32),o 34 (eB 237 #[33,k0,(k 2)] #[249,4,3] 0)])) (.aG [m 35 0,fL 36 35,o 37 (.aU 0 36),o 38 (.eQ (.load 21 37) 21),m 4 38])))))))) (.aG [m 39 0,fL 40 39,o 41 (.aU 1 40),o 42 (eB 237 #[41,k1,(k 2)] #[249,4,3] 0)]))))
def Mv:List Zc:=[]
def Zxl:aI Tryz.prog 213 2 Gw Mv:=bE [(999999,0)] Tryz.func213
def DR:dC Tryz.prog 155 (Extern.Race.marked .releaseMerge):=⟨Tryz.f155,Tryz.func155,U,U,U,U⟩
def U2:dC Tryz.prog 156 (λ_=>do mark .disable;pure Zz):=⟨Tryz.f156,Tryz.func156,U,U,U,U⟩
def Yu:dC Tryz.prog 157 (λ_=>do mark .enable;pure Zz):=⟨Tryz.f157,Tryz.func157,U,U,U,U⟩
def X0:dC Tryz.prog 158 (λ_=>pure (.bool false)):=⟨Tryz.f158,Tryz.func158,U,U,U,U⟩
def X1:dC Tryz.prog 163 (Extern.Race.marked .read):=⟨Tryz.f163,Tryz.func163,U,U,U,U⟩
def X2:dC Tryz.prog 167 Extern.Sync.semrelease:=⟨Tryz.f167,Tryz.func167,U,U,U,U⟩
def YU:dC Tryz.prog 170 (Extern.Race.marked .acquire):=⟨Tryz.f170,Tryz.func170,U,U,U,U⟩
def X3:dC Tryz.prog 173 (Extern.Race.marked .write):=⟨Tryz.f173,Tryz.func173,U,U,U,U⟩
def X4:dC Tryz.prog 174 Extern.Sync.semacquire:=⟨Tryz.f174,Tryz.func174,U,U,U,U⟩
def LZ:dC Tryz.prog 207 (Extern.Atomic.update (Op.intArith .add) .u64 true):=⟨Tryz.f207,Tryz.func207,U,U,U,U⟩
def DS:dC Tryz.prog 208 (Extern.Atomic.loadT (.int .u64)):=⟨Tryz.f208,Tryz.func208,U,U,U,U⟩
def X5:dC Tryz.prog 209 Extern.Atomic.storeT:=⟨Tryz.f209,Tryz.func209,U,U,U,U⟩
def YT:dC Tryz.prog 210 (Extern.Atomic.casT (.int .i32)):=⟨Tryz.f210,Tryz.func210,U,U,U,U⟩
def Ve:dC Tryz.prog 212 (Extern.Atomic.update (Op.intArith .add) .i32 true):=⟨Tryz.f212,Tryz.func212,U,U,U,U⟩
def X6:dC Tryz.prog 214 (Extern.Atomic.casT (.int .u64)):=⟨Tryz.f214,Tryz.func214,U,U,U,U⟩
def X7:dC Tryz.prog 231 Extern.Sync.canSpin:=⟨Tryz.f231,Tryz.func231,U,U,U,U⟩
def DT:dC Tryz.prog 232 (λ_=>pure Zz):=⟨Tryz.f232,Tryz.func232,U,U,U,U⟩
def sQ:dC Tryz.prog 234 Extern.OsHooks.nano:=⟨Tryz.f234,Tryz.func234,U,U,U,U⟩
def sR:dC Tryz.prog 235 Extern.Sync.semacquire:=⟨Tryz.f235,Tryz.func235,U,U,U,U⟩
def DU:dC Tryz.prog 237 Extern.Sync.semrelease:=⟨Tryz.f237,Tryz.func237,U,U,U,U⟩
end
section
variable{f:FuncId}{k:IntKind}{t:TypeId}{Post:Value->Hp->Prop}{α:Type}{H':Hp}{a:Addr}{cs vs:List Value}{i dQ:Nat}{xs:List Operand}
class Tz (P:aY):Prop where
 prog:P.toProgram=Tryz.prog
def bG{P:aY}[Tz P]{f k:Nat}{n:Zb}{r:List Zc}(h:aI Tryz.prog f k n r):aI P.toProgram f k n r:=by rw[Tz.prog (P:=P)];exact h
def bL{P:aY}[Tz P]{d:TypeDesc}(h:Tryz.prog.underlying t=some d):P.toProgram.underlying t=some d:=by rw[Tz.prog (P:=P)];exact h
def bH{P:aY}[Tz P]{c:Nat}{z:Value}{b:Nat}(h:ZU Tryz.prog t=some (c,some z,b)):TI P.toProgram t c z b:=by rw[Tz.prog (P:=P)];exact Zpo h
def pF{P:aY}[Tz P]{n:Option Nat}(h:Yi Tryz.prog t=some n):Yi P.toProgram t=some n:=by rw[Tz.prog (P:=P)];exact h
def T9(p:Program)(f:FuncId):Bool:=match p.funcs[f]? with | some fn=>fn.body.isSome && !(fn.name == "runtime.NumGoroutine") | none=>false
def Yg{P:aY}[Tz P]{first cap args:Array Value}{H:Hp}(hb:T9 Tryz.prog f=true)(h:LL.Za P f (first++args++cap) H Post):bR P (.func (.func f) first cap) args H Post:=by
 unfold T9 at hb;split at hb
 ·rename_i fn b;simp only[oR,qAK]at hb;exact bR.of (by rw[Tz.prog (P:=P)];exact b) hb.1 hb.2 h
 simp at hb
abbrev vi(n:Int):Value:=.int .i64 n
abbrev vb(b:Bool):Value:=.bool b
abbrev vf(f:Nat):Value:=.func (.func f) #[] #[]
def P4:Tryz.prog.underlying 234=some (.array 3 233):=U
def NM:ZU Tryz.prog 233=some (1,some .nilFunc,8):=U
def KO:Yi Tryz.prog 233=some none:=U
def eW:Tryz.prog.underlying 29=some (.slice 3):=U
def t3:ZU Tryz.prog 3=some (1,some (vi 0),8):=U
def a3:Yi Tryz.prog 3=some none:=U
class Enc (α:Type) where
 sz:Nat
 enc:α->List Value
 len:∀a,(enc a).length=sz
def Zh[Enc α](l:List α):List Value:=l.flatMap Enc.enc
def UC{α:Type}[Enc α]:∀l:List α,(Zh l).length=l.length * Enc.sz α
 | []=>by simp[Zh]
 | a :: l=>by have:=UC l;simp only[Zh,qAJ,IN,Enc.len,qAI]at this ⊢;rw[this,qBU];omega
def L0{α:Type}[Enc α]:∀(l:List α) (i j:Nat) (b:i<l.length),j<Enc.sz α->(Zh l)[i * Enc.sz α+j]? = (Enc.enc l[i])[j]?
 | [],i,j,b,_=>by simp at b
 | a :: l,0,j,b,c=>by simp only[Zh,qAJ,Nat.zero_mul,qAP,List.getElem_cons_zero];rw[qAB (by rw[Enc.len];exact c)]
 | a :: l,i+1,j,b,c=>by have:=L0 l i j (by simpa using b) c;simp only[Zh,qAJ,List.getElem_cons_succ]at this ⊢;rw[qAY (by rw[Enc.len,qBU];omega),Enc.len,<-this];congr 1;rw[qBU];omega
def Zj[Enc α](H:Hp)(v:Value)(l:List α):Prop:=∃A c,v=.slice A l.length c/\(l≠[]->∃a,A=some a/\aC H a (Zh l))
def _root_.Go.LL.aC.sub{H:Hp}(h:aC H a cs)(g:H.Sub H'):aC H' a cs:=by obtain⟨b,o,p,c,e⟩:=h;exact⟨b,o,p,g.mem _ _ c,e⟩
def Zj.sub[Enc α]{H:Hp}{v:Value}{l:List α}(h:Zj H v l)(n:H.Sub H'):Zj H' v l:=by obtain⟨A,c,b,e⟩:=h;refine⟨A,c,b,λm=>?_⟩;obtain⟨a,g,j⟩:=e m;exact⟨a,g,j.sub n⟩
def Zj.nil[Enc α](H:Hp):Zj H (.slice none 0 0) ([]:List α):=⟨none,0,rfl,λh=>absurd rfl h⟩
theorem vR(a:Addr)(n:Nat):(a.add n).off=a.off+n:=by
 unfold Addr.add;split
 ·subst n;rfl
 rfl
theorem vQ(a:Addr)(n:Nat):(a.add n).block=a.block:=by unfold Addr.add;split<;>rfl
theorem CI(h:a.spot=none)(n:Nat):(a.add n).spot=none:=by
 unfold Addr.add;split
 ·exact h
 rfl
def _root_.Go.LL.aC.row[Enc α]{H:Hp}{l:List α}(h:aC H a (Zh l))(hi:i<l.length):aC H (a.add (i * Enc.sz α)) (Enc.enc l[i]):=by obtain⟨e,o,p,g,m⟩:=h;refine⟨CI e _,o,p,by rw[vQ];exact g,λj b=>?_⟩;rw[Enc.len]at b;rw[vR,qCl,m _ (by rw[UC];have:(i+1) * Enc.sz α<=l.length * Enc.sz α:=qBz _ hi;rw[qBU]at this;omega),L0 l i j hi b]
section
variable{P:aY}{d:Option Nat}{next:aL->Hp->Prop}{σ:aL}{H:Hp}{x y:Operand}{v:Value}
def V3[Enc α]{l:List α}(p:Zj H v l)(e:σ.get x=some v)(g:σ.get y=some (.int k (i:Int)))(o:Enc.sz α=dQ)(b:i<l.length)(h:∀a,aC H a (Enc.enc l[i])->next (σ.set d (.pointer (some a))) H):(aR.bX dQ x y).m P d next σ H:=by obtain⟨A,c,rfl,j⟩:=p;obtain⟨a,rfl,n⟩:=j (by rintro rfl;simp at b);subst o;exact vB e g b (h _ (n.row b))
def ZK[Enc α]{l:List α}(b:Zj H v l)(e:σ.get x=some v)(h:next (σ.set d (.int .i64 (l.length:Int))) H):(aR.len x).m P d next σ H:=by obtain⟨A,c,rfl,g⟩:=b;exact PK e h
def Zo[Enc α]{l:List α}(i:Nat)(j:Zj H v l)(g:i<l.length)(h:∀a,aC H a (Enc.enc l[i])->next (σ.set d (.pointer (some a))) H)(b:σ.get x=some v:=by exact rfl)(c:σ.get y=some (.int k (i:Int)):=by exact rfl)(e:Enc.sz α=dQ:=by exact rfl):(aR.bX dQ x y).m P d next σ H:=V3 j b c e g h
def Z9[Loud P](b:aC H a [v])(h:next (σ.set d v) H)(e:σ.get x=some (.pointer (some a)):=by exact rfl):(aR.ld none x).m P d next σ H:=Zg (Loud.bB _) e b h
def ZL[Loud P]{n:Nat}(b:aC H a cs)(h:next (σ.set d (.agg cs.toArray)) H)(e:σ.get x=some (.pointer (some a)):=by exact rfl)(c:cs.length=n:=by exact rfl):(aR.ld (some n) x).m P d next σ H:=Z5 (Loud.bB _) e b c h
def Zf(b:LL.Za P f vs.toArray H Post)(h:∀v H',Post v H'->next (σ.set d v) H')(e:σ.dM xs=some vs:=by exact rfl):(aR.call f xs).m P d next σ H:=Zv e b h
def Zl{X:Value}(c:LL.Za P f vs.toArray H λv b=>H=b/\v=X)(h:next (σ.set d X) H)(e:σ.dM xs=some vs:=by exact rfl):(aR.call f xs).m P d next σ H:=Zv e c (by rintro v _ ⟨rfl,rfl⟩;exact h)
end
instance:Enc Int:=⟨1,λn=>[vi n],λ_=>rfl⟩
instance:Enc Value:=⟨1,λv=>[v],λ_=>rfl⟩
structure pU where
 (ml mh bl bh w:Int)
structure gA where
 (p gl gh:Int)
structure Bk where
 (op sl:Int)
 (aF:List pU)
 (bJ:List gA)
instance:Enc pU:=⟨5,λp=>[vi p.ml,vi p.mh,vi p.bl,vi p.bh,vi p.w],λ_=>rfl⟩
instance:Enc gA:=⟨3,λc=>[vi c.p,vi c.gl,vi c.gh],λ_=>rfl⟩
def bK(H:Hp)(v:Value)(b:Bk):Prop:=∃e c,v=.agg #[vi b.op,vi b.sl,e,c]/\Zj H e b.aF/\Zj H c b.bJ
def bK.sub{H:Hp}{v:Value}{b:Bk}(h:bK H v b)(c:H.Sub H'):bK H' v b:=by obtain⟨m,e,g,j,l⟩:=h;exact⟨m,e,g,j.sub c,l.sub c⟩
end
open Go.Z
def RD:Zb:=(sq [o 1 (.aS 1 [1] 0),m0 2] (sq [l 3 1 4 1,c1 4 29 3,o 5 (.not 4),m 6 5,gt 6 7 (.cY 1 (some 4) 1),gt 6 8 (.call 30 [7]),gt 6 9 (.bC .eql 8 (k 0)),pa 10 6 9,m 2 10] .ret))
def Ti:List Zc:=[(.aK 2)]
def c48:aI Tryz.prog 6 1 RD Ti:=bE [(1,1)] Tryz.func6
def RL:Zb:=(sq [o 1 (.aS 1 [1] 0),mi 2 0,mi 3 0] (sq [l 7 1 4 1,o 8 (.call 64 [7,(.func 65)]),m 6 8,x 9 6 0,x 10 6 1,o 4 (.aO 4 [4,15] [z0,z0,s0,s0,s0]),ls 4 5 4 9,m 5 10] (S (sq [m 11 5,bk 12 .neq 11 0] (cr 12 [m 13 5,mi 2 0,m 3 13])) (sq [l 14 4 5 4,f 15 0 4,l 16 4 4 15,o 17 (.raw (.makeFunc (.func 67) #[16] #[]) 142),c2 18 66 14 17,m 2 18,mi 3 0] .ret))))
def Tq:List Zc:=[(.aK 2),(.aK 3)]
def c31:aI Tryz.prog 16 1 RL Tq:=bE [(1,1),(4,4),(15,4)] Tryz.func16
def Fy:Zb:=(sq [o 1 (.aS 1 [1,12,24,32] 0),o 2 (.cV (.const s0))] (sq [o 10 (.aX 29 1 [s0] [(0,(1,(.const s0)))]),m 3 10] (S (sq [mi 4 0] (fo 0 15 [m 11 4,f 12 1 1,ln 13 1 12,le 14 13,b 15 .lss 11 14] 1 (sq [o 5 (.cV (.const s0))] (S (sq [mi 6 0] (fo 2 21 [m 18 6,m 19 3,le 20 19,b 21 .lss 18 20] 3 (sq [f 24 1 1,ln 25 1 24,m 26 4,ia 27 3 25 26,o 28 (.aU 1 27),o 29 (.aU 0 28),ld 30 29,m 7 30] (fo 4 39 [m 31 7,f 32 1 1,ln 33 1 32,m 34 4,ia 35 3 33 34,o 36 (.aU 1 35),o 37 (.aU 1 36),ld 38 37,b 39 .leq 31 38] 5 (.aG [m 42 5,o 43 (.raw (.buildSlice 29 0 #[]) 29),m 44 3,m 45 6,ia 46 1 44 45,ld 47 46,o 48 (.raw (.call (.mk (.builtin .append) #[43,47] #[29,29])) 29),m 49 7,o 50 (.aX 3 1 [z0] [(0,(1,49))]),o 51 (.raw (.call (.mk (.builtin .append) #[48,50] #[29,29])) 29),o 52 (.aX 29 1 [s0] [(0,(1,51))]),o 53 (.raw (.call (.mk (.builtin .append) #[42,52] #[73,73])) 73),m 5 53]) (ic 40 41 7))) (ic 22 23 6))) (.aG [m 54 5,m 3 54]))) (ic 16 17 4))) (sq [o 8 (.cV (.const s0))] (S (sq [mi 9 0] (fo 6 58 [m 55 9,m 56 3,le 57 56,b 58 .lss 55 57] 7 (S (.drawn [l 61 1 4 1,m 62 3,m 63 9,ia 64 1 62 63,ld 65 64,c2 66 73 61 65]) (N 66 (.aG [m 67 8,m 68 3,m 69 9,ia 70 1 68 69,ld 71 70,o 72 (.aX 29 1 [s0] [(0,(1,71))]),o 73 (.raw (.call (.mk (.builtin .append) #[67,72] #[73,73])) 73),m 8 73]) .skip)) (ic 59 60 9))) (sq [m 74 8,m 2 74] .ret))))))
def ZsV:List Zc:=[(.aK 2)]
def Zy7:aI Tryz.prog 21 1 Fy ZsV:=bE [(1,1),(12,1),(24,1),(32,1)] Tryz.func21
def Gd:Zb:=(sq [o 2 (.aS 2 [2,5,10,12] 0),mi 4 0] (S (.drawn [f 5 1 2,ln 6 2 5,o 7 (.bX 3 6 (k 0)),o 8 (.aU 0 7),ld 9 8,f 10 1 2,ln 11 2 10,f 12 1 2,ln 13 2 12,le 14 13,bk 15 .sub 14 1,ia 16 3 11 15,o 17 (.aU 0 16),ld 18 17,m 20 1,o 21 (.bT (.convert 69 3 20) 3),(c2 19 80 9 18,(some false)),c2 22 50 19 21,m 4 22]) .ret))
def ZsQ:List Zc:=[(.aK 4)]
def Zy2:aI Tryz.prog 26 2 Gd ZsQ:=bE [(2,2),(5,2),(10,2),(12,2)] Tryz.func26
def Q1:Zb:=(sq [o 0 (.aO 0 [0] [z0,z0,s0,s0])] (sq [o 1 (.call 42 [(k 4)]),o 2 (.call 49 [(k 0),(k 12)]),o 3 (.build [z0,z0,z0,z0,z0] [(0,(2,1)),(2,(2,2)),(4,(1,(k 4)))]),o 4 (.call 49 [(k 5),(k 6)]),o 5 (.call 49 [(k 1),(k 12)]),o 6 (.build [z0,z0,z0,z0,z0] [(0,(2,4)),(2,(2,5)),(4,(1,(k 4)))]),o 7 (.call 42 [(k 4)]),o 8 (.call 49 [(k 0),(k 10)]),o 9 (.build [z0,z0,z0,z0,z0] [(0,(2,7)),(2,(2,8)),(4,(1,(k 4)))]),o 10 (.aX 110 3 [z0,z0,z0,z0,z0,z0,z0,z0,z0,z0,z0,z0,z0,z0,z0] [(0,(5,3)),(5,(5,6)),(10,(5,9))]),o 11 (.call 49 [(k 6),(k 7)]),o 12 (.build [z0,z0,z0] [(0,(1,(k 2))),(1,(2,11))]),o 13 (.aX 101 1 [z0,z0,z0] [(0,(3,12))]),o 14 (.build [z0,z0,s0,s0] [(0,(1,(k 10))),(1,(1,(k 1))),(2,(1,10)),(3,(1,13))]),ls 0 4 0 14] .ret))
def Sv:List Zc:=[(.gP 0 0 (some 4))]
def c85:aI Tryz.prog 31 0 Q1 Sv:=bE [(0,0)] Tryz.func31
def RN:Zb:=(sq [o 2 (.aS 2 [2] 0),o 3 (.raw (.box 3 1) 0),o 4 (.cV (.const s0)),mi 5 0] (sq [l 12 2 4 2,o 13 (.raw (.makeFunc (.func 96) #[] #[3]) 140),c2 14 64 12 13,m 11 14,x 15 11 0,x 16 11 1,o 6 (.aO 6 [6,20,28] [z0,z0,s0,s0,s0]),ls 6 5 6 15,m 7 16] (S (sq [m 17 7,bk 18 .neq 17 0] (cr 18 [m 19 7,o 4 (.cV (.const s0)),m 5 19])) (sq [o 8 (.cV (.const s0))] (S (sq [f 20 4 6,ln 21 6 20,le 22 21,mi 23 0] (fp 0 24 [b 24 .lss 23 22] 1 (sq [ia 25 6 21 23,lm 26 6 25,o 10 (.aO 10 [10] [z0,z0,z0,z0,z0,z0]),ls 10 6 10 26] (.drawn [m 27 8,f 28 0 6,l 29 6 4 28,l 30 10 6 10,ld 32 3,(c2 31 54 29 30,(some true)),(o 33 (.raw (.index 115 31 32) 3),(some false)),(o 34 (.aX 3 1 [z0] [(0,(1,33))]),(some false)),(o 35 (.raw (.call (.mk (.builtin .append) #[27,34] #[29,29])) 29),none),m 8 35])) (.aG [bk 36 .add 23 1,m 23 36]))) (sq [m 37 8,c1 38 98 37] (sq [m 39 8,c1 40 92 39,m 4 40,mi 5 0] .ret)))))))
def Tt:List Zc:=[(.aK 4),(.aK 5)]
def c29:aI Tryz.prog 36 2 RN Tt:=bE [(2,2),(6,6),(10,10),(20,6),(28,6)] Tryz.func36
def RG:Zb:=(sq [o 2 (.aS 2 [2,13,19] 0),o 3 (.aS 3 [3] 1),o 4 (.aO 4 [4] [z0,z0,s0,s0]),mi 5 0] (S (sq [l 7 2 4 2,c1 8 89 7,m 6 8] (sq [m 9 6,bk 10 .neq 9 0] (cr 10 [o 11 (.build [z0,z0,s0,s0] []),m 12 6,ls 4 4 4 11,m 5 12]))) (S (.drawn [f 13 3 2,ln 14 2 13,l 16 3 3 3,u (.build [z0,z0,z0] [(0,(3,16))]),(c1 15 111 14,(some false)),(o 17 (.aX 101 1 [z0,z0,z0] [(0,(3,16))]),(some false)),(o 18 (.raw (.call (.mk (.builtin .append) #[15,17] #[23,23])) 23),none),f 19 3 2,ls 2 1 19 18]) (sq [l 20 2 4 2,c1 21 112 20,x 22 21 0,x 23 21 1,ls 4 4 4 22,m 5 23] .ret))))
def Tl:List Zc:=[(.gP 4 4 (some 4)),(.aK 5)]
def c41:aI Tryz.prog 41 2 RG Tl:=bE [(2,2),(3,3),(4,4),(13,2),(19,2)] Tryz.func41
def Q9:Zb:=(sq [o 2 (.aS 2 [2,8] 0),o 3 (.aS 3 [3] 1),o 4 (.aO 4 [4] [z0,z0,s0,s0])] (sq [l 6 2 4 2,o 5 (.aO 5 [5,14] [z0,z0,s0,s0]),ls 5 4 5 6] (S (.drawn [f 8 3 2,ln 9 2 8,l 11 3 3 3,u (.build [z0,z0,z0] [(0,(3,11))]),(o 7 (.raw (.buildSlice 23 0 #[]) 23),(some false)),u (.build [z0,z0,z0] [(0,(3,11))]),(o 10 (.raw (.call (.mk (.builtin .append) #[7,9] #[23,23])) 23),(some false)),(o 12 (.aX 101 1 [z0,z0,z0] [(0,(3,11))]),(some false)),(o 13 (.raw (.call (.mk (.builtin .append) #[10,12] #[23,23])) 23),none),f 14 3 5,ls 5 1 14 13]) (sq [l 15 5 4 5,ls 4 4 4 15] .ret))))
def Te:List Zc:=[(.gP 4 4 (some 4))]
def c51:aI Tryz.prog 46 2 Q9 Te:=bE [(2,2),(3,3),(4,4),(5,5),(8,2),(14,5)] Tryz.func46
def QW:Zb:=(sq [o 2 (.aS 2 [2,8,25] 0),mi 4 0] (sq [mi 5 0] (S (sq [f 8 4 2,ln 9 2 8,le 10 9,mi 11 0] (fp 0 12 [b 12 .lss 11 10] 1 (sq [ia 13 6 9 11,lm 14 6 13,o 7 (.aO 7 [7] [z0,z0,z0,z0,z0,z0]),ls 7 6 7 14] (sq [m 15 1,l 16 7 6 7,o 17 (.raw (.call (.mk (.value 15) #[16] #[117])) 4)] (N 17 (ic 18 19 5) .skip))) (.aG [bk 20 .add 11 1,m 11 20]))) (S (sq [m 21 5] (B 2 (sq [bk 23 .eql 21 0,m 22 23] (N 22 (sq [mi 4 2] .ret) (sq [f 25 4 2,ln 26 2 25,le 27 26,b 28 .eql 21 27,m 24 28] (cr 24 [mi 4 1])))))) (sq [mi 4 0] .ret)))))
def Sq:List Zc:=[(.aK 4)]
def c91:aI Tryz.prog 66 2 QW Sq:=bE [(2,2),(7,7),(8,2),(25,2)] Tryz.func66
def Fe:Zb:=(sq [m0 4] (sq [m 5 0,m 6 1,b 7 .lss 5 6,m 4 7] .ret))
def ZsB:List Zc:=[(.aK 4)]
def ZyN:aI Tryz.prog 71 2 Fe ZsB:=bE [] Tryz.func71
def Ez:Zb:=(sq [o 1 (.aS 1 [1,15,18,21,24,25,26] 0),o 2 (.aO 2 [2] [z0,s0,s0,s0]),mi 3 0] (S (sq [l 7 1 4 1,o 8 (.call 81 [7,(.func 137)]),m 6 8,x 9 6 0,x 10 6 1,o 4 (.aO 4 [4] [z0,s0,s0,s0,s0]),ls 4 5 4 9,m 5 10] (sq [m 11 5,bk 12 .neq 11 0] (cr 12 [o 13 (.build [z0,s0,s0,s0] []),m 14 5,ls 2 4 2 13,m 3 14]))) (S (.drawn [f 15 1 1,ln 16 1 15,f 18 2 1,ln 19 1 18,f 21 3 1,ln 22 1 21,(c1 17 138 16,(some false)),f 24 1 1,(c1 20 139 19,(some false)),(c1 23 75 22,(some false)),ls 1 1 24 17,f 25 2 1,ls 1 1 25 20,f 26 3 1,ls 1 1 26 23]) (sq [l 27 1 4 1,ls 2 4 2 27,mi 3 0] .ret))))
def ZsF:List Zc:=[(.gP 2 2 (some 4)),(.aK 3)]
def ZyR:aI Tryz.prog 76 1 Ez ZsF:=bE [(1,1),(2,2),(4,4),(15,1),(18,1),(21,1),(24,1),(25,1),(26,1)] Tryz.func76
def Fg:Zb:=(sq [o 2 (.aS 2 [2] 0),o 4 (.aO 4 [4] [z0,s0,s0,s0,s0]),mi 5 0] (S (sq [l 9 2 4 2,c1 10 74 9,m 6 10] (sq [m 11 6,bk 12 .neq 11 0] (cr 12 [o 13 (.build [z0,s0,s0,s0,s0] []),m 14 6,ls 4 5 4 13,m 5 14]))) (sq [l 15 2 4 2,o 16 (.build [z0,s0,s0,s0] [(0,(4,15))]),o 17 (.build [z0,s0,s0,s0,s0] [(0,(4,16))]),o 7 (.aO 7 [7,19,26,29,30] [z0,s0,s0,s0,s0]),ls 7 5 7 17] (S (sq [m 18 1,f 19 0 7,l 20 7 4 19,o 21 (.raw (.call (.mk (.value 18) #[20] #[155])) 34),m 8 21] (sq [m 22 8,bk 23 .neq 22 0] (cr 23 [o 24 (.build [z0,s0,s0,s0,s0] []),m 25 8,ls 4 5 4 24,m 5 25]))) (S (sq [f 26 0 7,l 27 7 4 26,c1 28 142 27,f 29 4 7,ls 7 1 29 28] (sq [f 30 4 7,ln 31 7 30,le 32 31,bk 33 .eql 32 0] (cr 33 [o 34 (.build [z0,s0,s0,s0,s0] []),ls 4 5 4 34,mi 5 9]))) (sq [l 35 7 5 7,ls 4 5 4 35,mi 5 0] .ret))))))
def Zsz:List Zc:=[(.gP 4 4 (some 5)),(.aK 5)]
def ZyL:aI Tryz.prog 81 2 Fg Zsz:=bE [(2,2),(4,4),(7,7),(19,7),(26,7),(29,7),(30,7)] Tryz.func81
def Fo:Zb:=(sq [o 3 (.aS 3 [3,13,14,25,26,32,33] 0),o 4 (.aS 4 [4,42,45,65] 1),mi 6 0] (sq [mi 7 0] (S (B 0 (.loop (S (sq [f 13 0 3,f 14 1 13,ln 15 3 14,m 16 7,bk 17 .add 16 1,ia 18 3 15 17,o 19 (.aU 0 18),ld 20 19,m 21 2,b 22 .lss 20 21] (N 22 .skip (.exit 0))) (B 1 (ic 23 24 7))))) (S (.drawn [f 25 0 3,f 26 1 25,ln 27 3 26,m 28 7,ia 29 3 27 28,o 30 (.aU 0 29),ld 31 30,f 32 0 3,f 33 1 32,ln 34 3 33,m 35 7,bk 36 .add 35 1,ia 37 3 34 36,o 38 (.aU 0 37),ld 39 38,m 8 31,m 9 39]) (S (.drawn [m 40 7,bk 41 .add 40 1,o 42 (.dA 1 5 4 41),ln 43 4 42,m 44 7,o 45 (.dA 1 5 4 44),ln 46 4 45,b 47 .sub 43 46,m 48 2,m 49 8,b 50 .sub 48 49,b 51 .mul 47 50,m 52 9,m 53 8,b 54 .sub 52 53,m 10 51,m 11 54]) (sq [m 55 10,m 56 11,o 57 (.bT (.binOp .quo 3 55 56 3) 3),m 12 57] (S (sq [m 58 10,m 59 11,o 60 (.bT (.binOp .rem 3 58 59 3) 3),bk 61 .lss 60 0] (N 61 (.aG [m 62 12,bk 63 .sub 62 1,m 12 63]) .skip)) (sq [m 64 7,o 65 (.dA 1 5 4 64),ln 66 4 65,m 67 12,b 68 .add 66 67,m 6 68] .ret))))))))
def Zsu:List Zc:=[(.aK 6)]
def ZyG:aI Tryz.prog 86 3 Fo Zsu:=bE [(3,3),(4,4),(13,3),(14,3),(25,3),(26,3),(32,3),(33,3),(42,4),(45,4),(65,4)] Tryz.func86
def QV:Zb:=(sq [o 1 (.aS 1 [1,3] 0),m0 2] (sq [f 3 4 1,l 4 1 2 3,o 5 (.build [z0,z0] []),o 6 (.bT (.binOp .neq 31 4 5 31) 4),m 2 6] .ret))
def Sp:List Zc:=[(.aK 2)]
def c92:aI Tryz.prog 91 1 QV Sp:=bE [(1,1),(3,1)] Tryz.func91
def QQ:Zb:=(sq [o 2 (.aS 2 [2] 0),m0 3] (sq [l 4 2 4 2,ld 5 1,c2 6 97 4 5,m 3 6] .ret))
def Si:List Zc:=[(.aK 3)]
def c98:aI Tryz.prog 96 2 QQ Si:=bE [(2,2)] Tryz.func96
def Hx:Zb:=(sq [mi 3 0] (S (.drawn [(o 4 (.aU 2 1),none),(ld 5 4,none),(m 6 0,none),(ia 7 5 5 6,none),(o 8 (.aU 2 7),none),(o 9 (.aU 1 8),none),(ld 10 9,none),(o 11 (.aU 2 1),none),(ld 12 11,none),(m 13 0,none),(ia 14 5 12 13,none),(o 15 (.aU 2 14),none),(o 16 (.aU 0 15),none),(ld 17 16,none),(b 18 .sub 10 17,none),(o 19 (.aU 2 1),none),(ld 20 19,none),(m 21 0,none),(ia 22 5 20 21,none),(o 23 (.aU 4 22),none),(ld 24 23,none),(b 25 .sub 18 24,none),(m 3 25,none)]) .ret))
def ZrF:List Zc:=[(.aK 3)]
def ZxT:aI Tryz.prog 101 2 Hx ZrF:=bE [] Tryz.func101
def Iy:Zb:=(sq [o 2 (.cV (.const s0))] (S (sq [m 3 0,o 4 (.bT (.binOp .eql 23 3 (.const s0) 23) 4)] (cr 4 [o 2 (.cV (.const s0))])) (sq [o 5 (.raw (.buildSlice 23 0 #[]) 23),m 6 0,o 7 (.raw (.call (.mk (.builtin .append) #[5,6] #[23,23])) 23),m 2 7] .ret)))
def ZrS:List Zc:=[(.aK 2)]
def Zx6:aI Tryz.prog 111 1 Iy ZrS:=bE [] Tryz.func111
def Ej:Zb:=(sq [o 2 (.aS 2 [2,13,14] 0),o 4 (.aO 4 [4] [z0,z0,s0,s0]),o 5 (.cV (.const s0))] (sq [o 6 (.cV (.const s0))] (sq [l 10 2 4 2,o 7 (.aO 7 [7,11,12,31,32,37,38] [z0,z0,s0,s0]),ls 7 4 7 10] (sq [f 11 0 7,f 12 3 11,u (.kE 7 1 12 (.const s0))] (S (sq [f 13 0 2,f 14 3 13,ln 15 2 14,le 16 15,mi 17 0] (fp 0 18 [b 18 .lss 17 16] 1 (sq [m 19 17,ia 20 3 15 17,lm 21 3 20,o 9 (.aO 9 [9] [z0,z0,z0]),m 8 19,ls 9 3 9 21] (sq [m 22 1,m 23 8,o 24 (.bT (.binOp .shr 3 22 23 3) 3),o 25 (.bT (.binOp .and 3 24 (k 1) 3) 3),bk 26 .eql 25 1] (N 26 (.drawn [m 27 6,m 28 8,f 31 0 7,f 32 3 31,ln 33 7 32,l 34 9 3 9,u (.build [z0,z0,z0] [(0,(3,34))]),(o 29 (.aX 3 1 [z0] [(0,(1,28))]),(some false)),u (.build [z0,z0,z0] [(0,(3,34))]),(o 30 (.raw (.call (.mk (.builtin .append) #[27,29] #[29,29])) 29),(some false)),(o 35 (.aX 101 1 [z0,z0,z0] [(0,(3,34))]),(some false)),(o 36 (.raw (.call (.mk (.builtin .append) #[33,35] #[23,23])) 23),none),m 6 30,f 37 0 7,f 38 3 37,ls 7 1 38 36]) .skip))) (.aG [bk 39 .add 17 1,m 17 39]))) (sq [l 40 7 4 7,m 41 6,ls 4 4 4 40,m 5 41] .ret))))))
def Zr2:List Zc:=[(.gP 4 4 (some 4)),(.aK 5)]
def Zyf:aI Tryz.prog 116 2 Ej Zr2:=bE [(2,2),(4,4),(7,7),(9,9),(11,7),(12,7),(13,2),(14,2),(31,7),(32,7),(37,7),(38,7)] Tryz.func116
def Dn:Zb:=(sq [o 3 (.aS 3 [3] 0),o 5 (.aS 5 [5,9,12,15] 2),m0 6] (S (.drawn [l 7 3 4 3,m 8 1,f 9 0 5,ln 10 5 9,f 12 1 5,ln 13 5 12,f 15 2 5,ln 16 5 15,(c3 11 187 7 8 10,(some false)),b 14 .geq 11 13,o 17 (.bT (.binOp .eql 4 14 16 4) 4),m 6 17]) .ret))
def Zsn:List Zc:=[(.aK 6)]
def ZyA:aI Tryz.prog 136 3 Dn Zsn:=bE [(3,3),(5,5),(9,5),(12,5),(15,5)] Tryz.func136
def Du:Zb:=(sq [o 2 (.aS 2 [2,6,11,13] 0),m0 4] (S (.drawn [m 5 1,f 6 1 2,ln 7 2 6,o 8 (.bX 3 7 (k 0)),o 9 (.aU 0 8),ld 10 9,f 11 1 2,ln 12 2 11,f 13 1 2,ln 14 2 13,le 15 14,bk 16 .sub 15 1,ia 17 3 12 16,o 18 (.aU 0 17),ld 19 18,c3 20 10 5 10 19,m 4 20]) .ret))
def Zsh:List Zc:=[(.aK 4)]
def Zyu:aI Tryz.prog 141 2 Du Zsh:=bE [(2,2),(6,2),(11,2),(13,2)] Tryz.func141
def Dz:Zb:=(sq [o 4 (.aO 4 [4] [z0,z0])] (sq [m 5 0,m 6 1,m 7 0,o 8 (.aX 3 1 [z0] [(0,(1,7))]),o 9 (.raw (.call (.mk (.builtin .append) #[6,8] #[29,29])) 29),c1 10 189 9,o 11 (.bT (.call (.mk (.builtin .min) #[5,10] #[3,3])) 3),m 12 0,m 13 1,m 14 0,o 15 (.aX 3 1 [z0] [(0,(1,14))]),o 16 (.raw (.call (.mk (.builtin .append) #[13,15] #[29,29])) 29),c1 17 190 16,o 18 (.bT (.call (.mk (.builtin .max) #[12,17] #[3,3])) 3),o 19 (.build [z0,z0] [(0,(1,11)),(1,(1,18))]),ls 4 2 4 19] .ret))
def Zsc:List Zc:=[(.gP 4 4 (some 2))]
def Zyp:aI Tryz.prog 146 2 Dz Zsc:=bE [(4,4)] Tryz.func146
def Ih:Zb:=(sq [m1 8] (sq [m1 9] (B 0 (.loop (B 1 (sq [m 19 2,m 20 1,b 21 .sub 19 20,m 10 21] (S (sq [m 22 10,bk 23 .leq 22 12] (cr 23 [m 24 0,m 25 1,m 26 2,c3 27 194 24 25 26])) (S (sq [m 28 3,bk 29 .eql 28 0] (cr 29 [m 30 0,m 31 1,m 32 2,c3 33 195 30 31 32])) (S (sq [m 34 8,o 35 (.not 34)] (N 35 (sq [m 36 0,m 37 1,m 38 2,c3 39 196 36 37 38] (.aG [m 40 3,bk 41 .sub 40 1,m 3 41])) .skip)) (sq [m 43 0,m 44 1,m 45 2,c3 46 197 43 44 45,m 42 46,x 47 42 0,x 48 42 1,m 11 47,m 12 48] (S (sq [m 49 12,bk 50 .eql 49 2] (N 50 (sq [m 51 0,m 52 1,m 53 2,c3 54 198 51 52 53] (sq [m 55 2,bk 56 .sub 55 1,m 57 11,m 58 1,b 59 .sub 57 58,b 60 .sub 56 59,m 11 60] (.aG [mi 12 1]))) .skip)) (S (sq [m 61 8,m 62 61,mt 62 63 9,pa 64 62 63,m 65 64,mt 65 66 12,gt 65 67 (.bC .eql 66 (k 1)),pa 68 65 67] (N 68 (sq [m 69 0,m 70 1,m 71 2,c3 72 199 69 70 71] (N 72 .ret .skip)) .skip)) (S (S (.drawn [m 73 1,bk 74 .gtr 73 0,m 75 74,mt 75 76 0,mt 75 77 1,gt 75 78 (.bC .sub 77 (k 1)),gt 75 79 (.bX 1 76 78),gt 75 80 (.ld none 79),mt 75 81 0,mt 75 82 11,gt 75 83 (.bX 1 81 82),gt 75 84 (.ld none 83),gt 75 85 (.call 200 [80,84]),gt 75 86 (.not 85),pa 87 75 86]) (N 87 (sq [m 88 0,m 89 1,m 90 2,m 91 11,o 92 (.call 201 [88,89,90,91]),m 13 92] (sq [m 93 13,m 1 93] (.exit 1))) .skip)) (sq [m 95 0,m 96 1,m 97 2,m 98 11,o 99 (.call 202 [95,96,97,98]),m 94 99,x 100 94 0,x 101 94 1,m 14 100,m 15 101] (sq [m 102 15,m 9 102] (sq [m 103 14,m 104 1,b 105 .sub 103 104,m 106 2,m 107 14,b 108 .sub 106 107,m 16 105,m 17 108] (sq [m 109 10,o 110 (.bT (.binOp .quo 3 109 (k 8) 3) 3),m 18 110] (sq [m 111 16,m 112 17,b 113 .lss 111 112] (N 113 (sq [m 114 16,m 115 18,b 116 .geq 114 115,m 8 116] (sq [m 117 0,m 118 1,m 119 14,m 120 3,o 121 (.call 151 [117,118,119,120])] (.aG [m 122 14,bk 123 .add 122 1,m 1 123]))) (sq [m 124 17,m 125 18,b 126 .geq 124 125,m 8 126] (sq [m 127 0,m 128 14,bk 129 .add 128 1,m 130 2,m 131 3,o 132 (.call 151 [127,129,130,131])] (.aG [m 133 14,m 2 133]))))))))))))))))))))))
def Zrw:List Zc:=[]
def ZxL:aI Tryz.prog 151 4 Ih Zrw:=bE [] Tryz.func151
def Ir:Zb:=(sq [mi 4 0] (S (sq [m 9 0,le 10 9,mi 11 0] (fp 0 12 [b 12 .lss 11 10] 1 (sq [m 13 11,ia 14 1 9 11,ld 15 14,m 5 13,m 6 15] (S (sq [m 16 5,m 17 1,le 18 17,b 19 .geq 16 18] (cr 19 [mi 4 1])) (sq [m 20 1,m 21 5,ia 22 1 20 21,ld 23 22,m 7 23] (sq [m 24 6,m 25 7,c2 26 215 24 25,m 8 26] (sq [m 27 8,bk 28 .neq 27 0] (cr 28 [m 29 8,m 4 29])))))) (.aG [bk 30 .add 11 1,m 11 30]))) (S (sq [m 31 0,le 32 31,m 33 1,le 34 33,b 35 .lss 32 34] (cr 35 [o 4 (.cV (.const (.int .i64 (Int.negSucc 0))))])) (sq [mi 4 0] .ret))))
def Zrp:List Zc:=[(.aK 4)]
def ZxD:aI Tryz.prog 175 2 Ir Zrp:=bE [] Tryz.func175
def Gi:Zb:=(sq [o 2 (.raw (.box 135 0) 0),o 4 (.cV (.const s0))] (S (sq [m 6 1] (B 0 (.gU 6 [7] (.aG [o 5 (.raw (.alloc 117) 0),st 117 5 7 0]) (B 1 (.aG [ld 8 2,lm 9 6 5,o 10 (.aX 117 1 [z0,z0,z0,z0,z0,z0] [(0,(6,9))]),o 11 (.raw (.call (.mk (.builtin .append) #[8,10] #[135,135])) 135),st 135 2 11 0]))))) (sq [ld 12 2,m 4 12] .ret)))
def Zrj:List Zc:=[(.aK 4)]
def Zxx:aI Tryz.prog 185 2 Gi Zrj:=bE [] Tryz.func185
def Ei:Zb:=(sq [mi 2 0] (S (sq [m 5 0,le 6 5,bk 7 .lss 6 1] (N 7 (.aG [o 8 (.raw (.makeInterface 9 (.const (.string (.mk #[115,108,105,99,101,115,46,77,97,120,58,32,101,109,112,116,121,32,108,105,115,116])))) 20),u (.raw (.panic 8) 0)]) .skip)) (sq [m 9 0,o 10 (.bX 1 9 (k 0)),ld 11 10,m 3 11] (S (sq [mi 4 1] (fo 0 15 [m 12 4,m 13 0,le 14 13,b 15 .lss 12 14] 1 (.aG [m 18 3,m 19 0,m 20 4,ia 21 1 19 20,ld 22 21,o 23 (.bT (.call (.mk (.builtin .max) #[18,22] #[3,3])) 3),m 3 23]) (ic 16 17 4))) (sq [m 24 3,m 2 24] .ret)))))
def Zr3:List Zc:=[(.aK 2)]
def Zyg:aI Tryz.prog 190 1 Ei Zr3:=bE [] Tryz.func190
def Gk:Zb:=(sq [m 11 1,m 6 11] (sq [mi 7 0] (sq [m 12 2,m 13 1,b 14 .sub 12 13,m 8 14] (S (sq [m 15 8,bk 16 .sub 15 1,o 17 (.bT (.binOp .quo 3 16 (k 2) 3) 3),m 9 17] (fo 0 19 [m 18 9,bk 19 .geq 18 0] 1 (.aG [m 22 0,m 23 9,m 24 8,m 25 6,o 26 (.call 225 [22,23,24,25])]) (.aG [m 20 9,bk 21 .sub 20 1,m 9 21]))) (sq [m 27 8,bk 28 .sub 27 1,m 10 28] (fo 2 30 [m 29 10,bk 30 .geq 29 0] 3 (S (.drawn [m 33 0,m 34 6,m 35 0,m 36 6,m 37 10,b 38 .add 36 37,m 39 0,m 40 6,m 41 10,b 42 .add 40 41,ia 43 1 39 42,ld 44 43,m 45 0,m 46 6,ia 47 1 45 46,ld 48 47,ia 49 1 33 34,(st 3 49 44 0,(some false)),ia 50 1 35 38,st 3 50 48 0]) (.aG [m 51 0,m 52 7,m 53 10,m 54 6,o 55 (.call 225 [51,52,53,54])])) (.aG [m 31 10,bk 32 .sub 31 1,m 10 32])))))))
def Zrh:List Zc:=[]
def Zxv:aI Tryz.prog 195 3 Gk Zrh:=bE [] Tryz.func195
def Gr:Zb:=(sq [m0 4] (sq [m 5 0,c1 6 230 5,m 7 6,mt 7 8 1,gt 7 9 (.call 230 [8]),gt 7 10 (.not 9),pa 11 7 10,m 12 11,mf 12 13 0,mf 12 14 1,gf 12 15 (.bC .lss 13 14),po 16 12 15,m 4 16] .ret))
def Zrc:List Zc:=[(.aK 4)]
def Zxq:aI Tryz.prog 200 2 Gr Zrc:=bE [] Tryz.func200
def Gy:Zb:=(sq [mi 4 0] (S (sq [m 6 0,le 7 6,mi 8 0] (fp 0 9 [b 9 .lss 8 7] 1 (sq [m 10 8,m 5 10] (sq [m 11 1,m 12 0,m 13 5,ia 14 1 12 13,ld 15 14,o 16 (.raw (.call (.mk (.value 11) #[15] #[3])) 4)] (cr 16 [m 17 5,m 4 17]))) (.aG [bk 18 .add 8 1,m 8 18]))) (sq [o 4 (.cV (.const (.int .i64 (Int.negSucc 0))))] .ret)))
def Zq6:List Zc:=[(.aK 4)]
def Zxj:aI Tryz.prog 205 2 Gy Zq6:=bE [] Tryz.func205
def Gz:Zb:=(sq [mi 4 0] (S (sq [m 6 0,le 7 6,mi 8 0] (fp 0 9 [b 9 .lss 8 7] 1 (sq [m 10 8,m 5 10] (sq [m 11 1,m 12 0,m 13 5,ia 14 3 12 13,lm 15 3 14,o 16 (.raw (.call (.mk (.value 11) #[15] #[101])) 4)] (cr 16 [m 17 5,m 4 17]))) (.aG [bk 18 .add 8 1,m 8 18]))) (sq [o 4 (.cV (.const (.int .i64 (Int.negSucc 0))))] .ret)))
def Zq5:List Zc:=[(.aK 4)]
def Zxi:aI Tryz.prog 224 2 Gz Zq5:=bE [] Tryz.func224
def Hi:Zb:=(sq [mi 10 0] (sq [m 12 0,m 13 1,m 14 2,m 15 4,o 16 (.call 240 [12,13,14,15]),m 11 16,x 17 11 0,x 18 11 1,m 1 17,m 2 18] (sq [m 20 0,m 21 2,m 22 3,m 23 4,o 24 (.call 240 [20,21,22,23]),m 19 24,x 25 19 0,x 26 19 1,m 2 25,m 3 26] (sq [m 28 0,m 29 1,m 30 2,m 31 4,o 32 (.call 240 [28,29,30,31]),m 27 32,x 33 27 0,x 34 27 1,m 1 33,m 2 34] (sq [m 35 2,m 10 35] .ret)))))
def Zq0:List Zc:=[(.aK 10)]
def Zxd:aI Tryz.prog 229 5 Hi Zq0:=bE [] Tryz.func229
def Iw:Zb:=(sq [o 3 (.aS 3 [3,15,17,20,22] 1),mi 4 0] (sq [m 8 0,l 9 3 2 3,o 10 (.raw (.lookup 305 8 9 true) 282),m 7 10,x 11 7 0,x 12 7 1,m 5 11,m 6 12] (S (sq [m 13 6,o 14 (.not 13)] (N 14 (sq [f 15 0 3,ln 16 3 15,f 17 0 3,ln 18 3 17,b 19 .mul 16 18,f 20 1 3,ln 21 3 20,f 22 1 3,ln 23 3 22,b 24 .mul 21 23,b 25 .add 19 24,c1 26 242 25,m 5 26] (.aG [m 27 0,l 28 3 2 3,m 29 5,u (.raw (.mapUpdate 305 27 28 29) 0)])) .skip)) (sq [m 30 5,m 4 30] .ret))))
def ZrU:List Zc:=[(.aK 4)]
def Zx8:aI Tryz.prog 241 2 Iw ZrU:=bE [(3,3),(15,3),(17,3),(20,3),(22,3)] Tryz.func241
def Hn:Zb:=(sq [o 3 (.aS 3 [3,8,12,14,19] 0),m0 6] (sq [m 7 1,f 8 0 3,ln 9 3 8,b 10 .leq 7 9,m 11 10,gt 11 12 (.aV 0 3),gt 11 13 (.cY 3 none 12),gt 11 14 (.aV 1 3),gt 11 15 (.cY 3 none 14),gt 11 16 (.bC .leq 13 15),pa 17 11 16,m 18 17,gt 18 19 (.aV 1 3),gt 18 20 (.cY 3 none 19),mt 18 21 2,gt 18 22 (.bC .leq 20 21),pa 23 18 22,m 6 23] .ret))
def ZrN:List Zc:=[(.aK 6)]
def Zx1:aI Tryz.prog 264 3 Hn ZrN:=bE [(3,3),(8,3),(12,3),(14,3),(19,3)] Tryz.func264
def Lh:Zb:=(sq [o 1 (.aS 1 [1,5,6,10,11] 0),mi 2 0] (S (sq [f 5 0 1,f 6 3 5,ln 7 1 6,le 8 7,bk 9 .gtr 8 3] (cr 9 [mi 2 2])) (S (sq [f 10 0 1,f 11 3 10,ln 12 1 11,le 13 12,mi 14 0] (fp 0 15 [b 15 .lss 14 13] 1 (sq [ia 16 3 12 14,lm 17 3 16,o 4 (.aO 4 [4,20,25] [z0,z0,z0]),ls 4 3 4 17] (B 2 (sq [l 19 1 4 1,f 20 0 4,ln 21 4 20,c2 22 97 19 21,o 23 (.not 22),m 18 23] (N 18 (sq [mi 2 6] .ret) (sq [f 25 1 4,l 26 4 2 25,o 27 (.call 113 [26,(.const (.int .i64 (Int.negSucc 198))),(k 199)]),o 28 (.not 27),m 24 28] (cr 24 [mi 2 1])))))) (.aG [bk 29 .add 14 1,m 14 29]))) (sq [mi 2 0] .ret))))
def ZqV:List Zc:=[(.aK 2)]
def Zw8:aI Tryz.prog 269 1 Lh ZqV:=bE [(1,1),(4,4),(5,1),(6,1),(10,1),(11,1),(20,4),(25,4)] Tryz.func269
