/- proofs about Leango given: part Sh0; made by a program out of the longer texts in wip -/
import Derived.Test.YtamdhefhhdgjbaaGreatDoorP44
set_option linter.all false
section
namespace Go.LL
section
variable  {P:Prg}{d:Option Nat}{r:List NI}{op:NOp}{Q:NSt->Hp->Prop}{next:NSt->Hp->Prop}{σ:NSt}{H:Hp}{x y z:Operand}{v:Value}
variable  {l:List (NI×Option Bool)}
variable  {Qe:Ex->NSt->Hp->Prop}{a b c:Zai}
end
section
variable  {P:Prg}{σ:NSt}{H:Hp}{Qe:Ex->NSt->Hp->Prop}{b:Zai}
theorem Waw {n j:Nat}{I:Nat->Hp->Prop}{env:Nat->List (Nat×Value)}{box:Nat->List (Nat×List Value)}{σ':NSt}{ds:List Deferred}(hj:j<n)(hI:I (j+1) H)(he:LeE (env (j+1)) σ')(hb:LeB (box (j+1)) σ')(hd:σ'.defs=ds) :
  ∃ j':{ j:Nat // j<=n },n-j'.1<n-j∧I j'.1 H∧LeE (env j'.1) σ'∧LeB (box j'.1) σ'∧σ'.defs=ds:=⟨⟨j+1,hj⟩,by show n-(j+1)<n-j;omega,hI,he,hb,hd⟩
end
end Go.LL
end
section
namespace Go.LL
section
variable  {P:Prg}{d:Option Nat}{next:NSt->Hp->Prop}{σ:NSt}{H:Hp}{x y z:Operand}{v:Value}{ty:TypeId}
theorem om_rem {k:IntKind}{m n:Int}{t t2:TypeId}(e1:σ.get x=some (.int k m))(e2:σ.get y=some (.int k n))(hn:n≠0)(h:next (σ.set d (.int k (m.tmod n))) H):(NOp.pur (.binOp .rem t x y t2) ty).m P d next σ H:=by
 refine Zcb (by simp[Op.operands,e1,e2]) ?_ h
 have:execOp (fun x=>(σ.get x).getD undef) (bare (.binOp .rem t x y t2) ty)=pure (.value (.int k (m.tmod n))):=by simp[execOp,bare,e1,e2,eqGuard,binOp,Op.intDiv,hn]
 rw[this]
 exact fun Q g H hq=>hq
end
end Go.LL
end
section
open Go Go.LL Go.Z
namespace Go.Proofs
def n61:Zai:=(sq [o 3 (.lbox 3 [3,15] (t 0)),m0 6] (.seq (sq [mi 7 0] (.block 0 (.loop (.seq (sq [m 9 7,m 10 1,le 11 10,b 12 .lss 9 11] (.cond (t 12) .skip (.exit 0))) (.seq (.block 1 (sq [f 15 2 3,ln 16 3 15,m 17 7,ia 18 5 16 17,lm 19 5 18,o 8 (.lzero 8 [8,26,27,37,40,41] [z0,z0,z0,z0,z0]),ls 8 5 8 19] (.seq (.drawn [(m 20 1,none),(m 21 7,none),(ia 22 1 20 21,none),(ld 23 22,none),(m 24 2,none),(b 25 .add 23 24,none),(f 26 2 8,none),(f 27 0 26,none),(ln 28 8 27,none),(b 29 .lss 25 28,none),(m 30 29,none),(mf 30 31 1,none),(mf 30 32 7,none),(gf 30 33 (.iadr 1 (t 31) (t 32)),none),(gf 30 34 (.ld none (t 33)),none),(mf 30 35 2,none),(gf 30 36 (.bin .add (t 34) (t 35)),none),(gf 30 37 (.lfadr 4 8),none),(gf 30 38 (.lld 8 none 37),none),(gf 30 39 (.bin .add (t 36) (t 38)),none),(gf 30 40 (.lfadr 2 8),none),(gf 30 41 (.lfadr 1 40),none),(gf 30 42 (.lld 8 none 41),none),(gf 30 43 (.bin .gtr (t 39) (t 42)),none),(po 44 30 43,none)]) (.cond (t 44) (sq [m0 6] .ret) .skip)))) (.ops [m 13 7,bk 14 .add 13 1,m 7 14])))))) (sq [m1 6] .ret)))
def r61:List NRes:=[(.slot 6)]
theorem c61:IsN Tryz.prog 61 3 n61 r61:=isq [(3,3),(8,8),(15,3),(26,8),(27,8),(37,8),(40,8),(41,8)] Tryz.func61
end Go.Proofs
end
section
open Go Go.LL
namespace Go.Proofs
theorem ui4:Tryz.prog.underlying 4=some .bool:=by kernel_rfl
section
variable  {P:Prg}[Tz P]{H:Hp}{g:Bool}{d:Nat}
end
end Go.Proofs
end
section
open Go Go.LL
namespace Go.Proofs
section
variable  {P:Prg}[Tz P]{H:Hp}{d:Option Nat}{next:NSt->Hp->Prop}{σ:NSt}{x y:Operand}{ty t2:TypeId}{v:Value}
theorem eq4_w' {a b:Bool}(d:Nat)(Q:Bool->Bool->Hp->Prop)(g:Bool)(H:Hp)(hq:Q (a == b) g H):wpL P.toPQ (Op.equalIn (d+1) 4 (vb a) (vb b)) Q g H:=by
 simp only[Op.equalIn,Zaa,Zad (und (P:=P) ui4),Zac]
 exact hq
theorem eq4_w {a b:Bool}(Q:Bool->Bool->Hp->Prop)(g:Bool)(H:Hp)(hq:Q (a == b) g H):wpL P.toPQ (Op.equalIn (9999+1) 4 (vb a) (vb b)) Q g H:=eq4_w' 9999 Q g H hq
theorem WaA {a b:Bool}(e1:σ.get x=some (vb a))(e2:σ.get y=some (vb b))(h:next (σ.set d (vb (a != b))) H):(NOp.pur (.binOp .neq 4 x y t2) ty).m P d next σ H:=by
 refine Zcb (by simp[Op.operands,e1,e2]) ?_ h
 have:execOp (fun x=>(σ.get x).getD undef) (bare (.binOp .neq 4 x y t2) ty)=(do let v <-(do eqGuard .neq 4 x y (vb a) (vb b);binOp .neq 4 (vb a) (vb b));pure (.value v)):=by simp[execOp,bare,e1,e2]
 rw[this]
 refine Zgz fun Q g H hq=>?_
 simp only[eqGuard,Zaa,Zac]
 exact Zaa.2 (eq4_w _ _ _ hq)
end
end Go.Proofs
end
section
open Go Go.LL Go.Z
namespace Go.Proofs
def n8:Zai:=(sq [o 4 (.lbox 4 [4,36,94,101,119,125] (t 0)),m0 8] (.seq (sq [l 28 4 4 4,c1 29 48 28,o 30 (.not (t 29))] (.cond (t 30) (sq [c0 31 18,m 8 31] .ret) .skip)) (sq [o 9 (.mov (.const s0)),o 10 (.mov (.const s0))] (sq [m 32 3,o 33 (.pur (.convert 5 3 (t 32)) 3),o 34 (.pur (.binOp .rem 3 (t 33) (k 100) 3) 3),m 11 34] (.seq (sq [mi 12 0] (.block 0 (.loop (.seq (sq [m 35 12,f 36 2 4,ln 37 4 36,le 38 37,b 39 .lss 35 38] (.cond (t 39) .skip (.exit 0))) (.seq (.block 1 (sq [m 42 1,m 43 12,c2 44 58 42 43,o 45 (.pur (.binOp .rem 3 (t 44) (k 199) 3) 3),bk 46 .sub 45 99,m 13 46] (.ops [m 47 9,m 48 13,o 49 (.buildS 3 1 [z0] [(0,(1,(t 48)))]),o 50 (.raw (.call (.mk (.builtin .append) #[(t 47),(t 49)] #[34,34])) 34),m 51 10,m 52 13,m 53 11,b 54 .add 52 53,o 55 (.buildS 3 1 [z0] [(0,(1,(t 54)))]),o 56 (.raw (.call (.mk (.builtin .append) #[(t 51),(t 55)] #[34,34])) 34),m 9 50,m 10 56]))) (.ops [m 40 12,bk 41 .add 40 1,m 12 41])))))) (sq [l 58 4 4 4,m 59 9,c2 60 59 58 59,m 57 60,x 61 57 0,x 62 57 1,x 63 57 2,o 14 (.lzero 14 [14,162,164,184,190,197,206,214,218,226,228] [z0,z0]),ls 14 2 14 61,m 15 62,m 16 63] (sq [l 65 4 4 4,m 66 10,c2 67 59 65 66,m 64 67,x 68 64 0,x 69 64 1,x 70 64 2,o 17 (.lzero 17 [17] [z0,z0]),ls 17 2 17 68,m 18 69,m 19 70] (sq [l 72 4 4 4,c1 73 60 72,m 71 73,x 74 71 0,x 75 71 1,x 76 71 2,m 20 74,m 21 75,m 22 76] (.seq (sq [m 77 16,bk 78 .neq 77 0,m 79 78,mf 79 80 19,gf 79 81 (.bin .neq (t 80) (k 0)),po 82 79 81,m 83 82,mf 83 84 22,gf 83 85 (.bin .neq (t 84) (k 0)),po 86 83 85,m 87 86,mf 87 88 15,mf 87 89 18,gf 87 90 (.pur (.binOp .neq 4 (t 88) (t 89) 4) 4),po 91 87 90,m 92 91,mf 92 93 20,gf 92 94 (.lfadr 2 4),gf 92 95 (.lld 4 none 94),gf 92 96 (.len (t 95)),gf 92 97 (.bin .sub (t 96) (k 1)),gf 92 98 (.call 53 [(t 93),(k 0),(t 97)]),gf 92 99 (.not (t 98)),po 100 92 99] (.cond (t 100) (sq [m0 8] .ret) .skip)) (sq [f 101 2 4,ln 102 4 101,m 103 20,ia 104 5 102 103,lm 105 5 104,o 23 (.lzero 23 [23,107,108,110,111,114] [z0,z0,z0,z0,z0]),ls 23 5 23 105] (.seq (sq [m 106 21,f 107 2 23,f 108 1 107,ln 109 23 108,f 110 2 23,f 111 0 110,ln 112 23 111,b 113 .sub 109 112,f 114 4 23,ln 115 23 114,b 116 .sub 113 115,b 117 .neq 106 116] (.cond (t 117) (sq [m0 8] .ret) .skip)) (.seq (sq [mi 24 0] (.block 2 (.loop (.seq (sq [m 118 24,f 119 2 4,ln 120 4 119,le 121 120,b 122 .lss 118 121] (.cond (t 122) .skip (.exit 2))) (.seq (.block 3 (sq [f 125 2 4,ln 126 4 125,m 127 24,ia 128 5 126 127,lm 129 5 128,o 25 (.lzero 25 [25,130,131,133,134,137] [z0,z0,z0,z0,z0]),ls 25 5 25 129] (sq [f 130 2 25,f 131 1 130,ln 132 25 131,f 133 2 25,f 134 0 133,ln 135 25 134,b 136 .sub 132 135,f 137 4 25,ln 138 25 137,b 139 .sub 136 138,m 26 139] (sq [m 140 26,m 141 21,b 142 .lss 140 141,m 143 142,mf 143 144 26,mf 143 145 21,gf 143 146 (.bin .eql (t 144) (t 145)),mf 143 147 146,mt 147 148 24,mt 147 149 20,gt 147 150 (.bin .lss (t 148) (t 149)),gf 143 151 (.pick (t 147) (t 150) k0),po 152 143 151] (.cond (t 152) (sq [m0 8] .ret) .skip))))) (.ops [m 123 24,bk 124 .add 123 1,m 24 124])))))) (sq [m 153 2,o 154 (.pur (.convert 73 3 (t 153)) 3),m 27 154] (.seq (sq [l 155 4 4 4,m 156 9,m 157 27,c3 158 61 155 156 157,m 159 15,m 160 159,mt 160 161 27,gt 160 162 (.lfadr 0 14),gt 160 163 (.lld 14 none 162),gt 160 164 (.lfadr 1 14),gt 160 165 (.lld 14 none 164),gt 160 166 (.call 53 [(t 161),(t 163),(t 165)]),pa 167 160 166,o 168 (.pur (.binOp .neq 4 (t 158) (t 167) 4) 4)] (.cond (t 168) (sq [m0 8] .ret) .skip)) (.seq (sq [m 169 15,o 170 (.not (t 169))] (.cond (t 170) (.seq (.drawn [(l 171 14 2 14,none),(o 172 (.call 62 [(k 0),(k 0)]),(some false)),(o 173 (.pur (.binOp .eql 49 (t 171) (t 172) 49) 4),none),(m 174 173,none),(gt 174 175 (.lld 17 (some 2) 17),none),(gt 174 176 (.call 62 [(k 0),(k 0)]),(some false)),(gt 174 177 (.pur (.binOp .eql 49 (t 175) (t 176) 49) 4),none),(pa 178 174 177,none),(m 179 178,none),(gt 179 180 (.call 18 []),none),(pa 181 179 180,none),(m 8 181,none)]) .ret) .skip)) (.seq (.drawn [(l 182 4 4 4,none),(m 183 9,none),(f 184 0 14,none),(ln 185 14 184,none),(c3 186 61 182 183 185,none),(m 187 186,none),(gt 187 188 (.lld 4 (some 4) 4),none),(mt 187 189 9,none),(gt 187 190 (.lfadr 1 14),none),(gt 187 191 (.lld 14 none 190),none),(gt 187 192 (.call 61 [(t 188),(t 189),(t 191)]),none),(pa 193 187 192,none),(m 194 193,none),(gt 194 195 (.lld 4 (some 4) 4),none),(mt 194 196 9,none),(gt 194 197 (.lfadr 0 14),none),(gt 194 198 (.lld 14 none 197),none),(gt 194 199 (.bin .sub (t 198) (k 1)),none),(gt 194 200 (.call 61 [(t 195),(t 196),(t 199)]),none),(gt 194 201 (.not (t 200)),none),(pa 202 194 201,none),(m 203 202,none),(gt 203 204 (.lld 4 (some 4) 4),none),(mt 203 205 9,none),(gt 203 206 (.lfadr 1 14),none),(gt 203 207 (.lld 14 none 206),none),(gt 203 208 (.bin .add (t 207) (k 1)),none),(gt 203 209 (.call 61 [(t 204),(t 205),(t 208)]),none),(gt 203 210 (.not (t 209)),none),(pa 211 203 210,none),(m 212 211,none),(gt 212 213 (.lld 17 (some 2) 17),none),(gt 212 214 (.lfadr 0 14),none),(gt 212 215 (.lld 14 none 214),none),(mt 212 216 11,none),(gt 212 217 (.bin .sub (t 215) (t 216)),none),(gt 212 218 (.lfadr 1 14),none),(gt 212 219 (.lld 14 none 218),none),(mt 212 220 11,none),(gt 212 221 (.bin .sub (t 219) (t 220)),none),(gt 212 222 (.call 62 [(t 217),(t 221)]),(some false)),(gt 212 223 (.pur (.binOp .eql 49 (t 213) (t 222) 49) 4),none),(pa 224 212 223,none),(m 225 224,none),(gt 225 226 (.lfadr 1 14),none),(gt 225 227 (.lld 14 none 226),none),(gt 225 228 (.lfadr 0 14),none),(gt 225 229 (.lld 14 none 228),none),(gt 225 230 (.bin .sub (t 227) (t 229)),none),(mt 225 231 21,none),(gt 225 232 (.bin .leq (t 230) (t 231)),none),(pa 233 225 232,none),(m 234 233,none),(gt 234 235 (.call 18 []),none),(pa 236 234 235,none),(m 8 236,none)]) .ret))))))))))))))))
def r8:List NRes:=[(.slot 8)]
theorem c8:IsN Tryz.prog 8 4 n8 r8:=isq [(4,4),(14,14),(17,17),(23,23),(25,25),(36,4),(94,4),(101,4),(107,23),(108,23),(110,23),(111,23),(114,23),(119,4),(125,4),(130,25),(131,25),(133,25),(134,25),(137,25),(162,14),(164,14),(184,14),(190,14),(197,14),(206,14),(214,14),(218,14),(226,14),(228,14)] Tryz.func8
end Go.Proofs
end
section
open Go Go.LL
namespace Go.Proofs
theorem Wad {l:List Int}{j:Nat}(hj:j<4):(n4of l).get j=l.getD j 0:=N4.of_get _ hj
section
variable  {P:Prg}[Tz P][Loud P]{H:Hp}
set_option maxHeartbeats 4000000
set_option maxRecDepth 20000
end
end Go.Proofs
end
section
open Go Go.LL
namespace Go.Proofs
theorem Wah (l:List U16)(i:Int):0<=Zgj l i∧Zgj l i<65536:=by
 unfold Zgj
 split
 ·exact⟨l[i.toNat].lo,l[i.toNat].hi⟩
 ·omega
section
variable  {P:Prg}[Tz P][Loud P]{H:Hp}
set_option maxHeartbeats 4000000
set_option maxRecDepth 20000
end
end Go.Proofs
end
section
open Go Go.LL Go.Conc Go.ConcM
namespace Go.Proofs
open YtamdhefhhdgjbaaGreatDoor Go.ChangeShapes Go.WideShapes
section
set_option maxRecDepth 100000
variable  {H:Type}{enc:TypeId×Value->H}{W:World}{base:Nat}{sp:Nat->Bool}{held:Bool}{fuel:Nat}{cs:List Value}{y:DataW H×List MemPlace}{r:Reach}{b0:Nat}{v:Value}{d:DataW H}{ps:List MemPlace}
theorem u16_trod (h:DataW.trod enc Tryz.prog W base sp held fuel 168 cs=some y):∃ u:U16,cs=Enc.enc u:=by
 obtain⟨n,rfl,_,hw⟩:=DataW.trod_int Tryz.underlying168 h
 simp only[Lit.wf,Bool.and_eq_true,decide_eq_true_eq]at hw
 have h1:IntKind.u16.min=0:=rfl
 have h2:IntKind.u16.max=65535:=rfl
 exact⟨⟨n,by omega,by omega⟩,rfl⟩
theorem cells168:Tryz.prog.cellsOf 168=1:=by kernel_rfl
theorem under72:Tryz.prog.underlying 72=some (.slice 168):=by kernel_rfl
theorem open_sl {α:Type}[Enc α]{t e:TypeId}(ht:Tryz.prog.underlying t=some (.slice e))(hc:Tryz.prog.cellsOf e=Enc.sz α)(hpos:0<Enc.sz α)
  (hel:∀ {n:Nat} {cs:List Value} {y:DataW H×List MemPlace},DataW.trod enc Tryz.prog W base sp held n e cs=some y->∃ x:α,cs=Enc.enc x)
  (hval:Value.okWide Tryz.prog W r b0 t v) (hd:DataW.Trod enc Tryz.prog W base sp held t v d ps):∃ l:List α,SlAt (roW W) v l:=by
 obtain⟨fuel,hf⟩:=hd
 obtain⟨a,len,cap,rfl⟩:=okWide_slice ht hval
 obtain⟨v,hv,l,hl⟩:=ZlR ht hc hpos hel hf
 have:Value.slice a len cap=v:=by simpa[Value.cells]using hv
 exact⟨l,this ▸ hl⟩
theorem Wax (hval:Value.okWide Tryz.prog W r b0 72 v)(hd:DataW.Trod enc Tryz.prog W base sp held 72 v d ps):∃ l:List U16,SlAt (roW W) v l:=
 open_sl under72 cells168 (by decide) u16_trod hval hd
theorem u8_open (hval:Value.okWide Tryz.prog W r b0 5 v)(hd:DataW.Trod enc Tryz.prog W base sp held 5 v d ps):∃ n,v=.int .u8 n∧0<=n∧n<256:=by
 obtain⟨n,rfl,_,_,hw⟩:=open_int Tryz.underlying5 hval hd
 simp only[Lit.wf,Bool.and_eq_true,decide_eq_true_eq]at hw
 have h1:IntKind.u8.min=0:=rfl
 have h2:IntKind.u8.max=255:=rfl
 exact⟨n,rfl,by omega,by omega⟩
theorem i16_open (hval:Value.okWide Tryz.prog W r b0 73 v)(hd:DataW.Trod enc Tryz.prog W base sp held 73 v d ps):∃ n,v=.int .i16 n∧-32768<=n∧n<32768:=by
 obtain⟨n,rfl,_,_,hw⟩:=open_int Tryz.underlying73 hval hd
 simp only[Lit.wf,Bool.and_eq_true,decide_eq_true_eq]at hw
 have h1:IntKind.i16.min=-32768:=rfl
 have h2:IntKind.i16.max=32767:=rfl
 exact⟨n,rfl,by omega,by omega⟩
end
end Go.Proofs
end
section
open Go Go.LL Go.Conc Go.ConcM
namespace Go.Proofs.YtamdhefhhdgjbaaGreatDoor
theorem Wal:Tryz.pinned.checked.prog.funcNamed Rows.spileShiftsRow.func=some 8:=by kernel_rfl
theorem Wak:joinedFacts Tryz.pinned.checked.prog 8 Tryz.f8 Rows.spileShiftsSpec Rows.spileShiftsRow=true:=by kernel_rfl
theorem Waj:Tryz.f8.isInstance Tryz.pinned.checked.prog Rows.spileShiftsRow.origin Rows.spileShiftsRow.targs:=of_decide_eq_true (by kernel_rfl)
theorem Wai:Tryz.f8.isWrapper Tryz.pinned.checked.prog Rows.spileShiftsRow.wrapper Rows.spileShiftsRow.mainSum:=by unfold Func.isWrapper;first | (rw[if_pos (by decide +kernel)];kernel_rfl) | (rw[if_neg (by decide +kernel)];exact⟨rfl,rfl⟩)
end Go.Proofs.YtamdhefhhdgjbaaGreatDoor
end
section
open Go Go.LL
namespace Go.Proofs
end Go.Proofs
end
section
open Go Go.LL
namespace Go.Proofs
def lieB (b:Bk)(l:List Int)(k:Int)(i:Nat):Bool:=!(decide (l.getD i 0+k<(ptAt b i).bl) || decide (l.getD i 0+k+(ptAt b i).w > (ptAt b i).bh))
def Waf (b:Bk)(l:List Int)(k:Int):Bool:=(List.range l.length).all (lieB b l k)
section
variable  {P:Prg}[Tz P][Loud P]{H:Hp}
set_option maxHeartbeats 4000000
set_option maxRecDepth 20000
theorem Wag {bv lv:Value}{b:Bk}{l:List Int}{k:Int}(hb:BkAt H bv b)(hlv:SlAt H lv l)(hle:l.length<=b.pts.length)(hl3:l.length<=1000000)(okp:PtsOk b)(okl:∀ n∈l,Sm n)(hk:Sm k) :
  LL.Zag P 61 #[bv,lv,vi k] H fun v H'=>H=H'∧v=vb (Waf b l k):=by
 have hs:∀ g,P.still g=false:=Loud.loud
 obtain⟨pv,cv,rfl,hp,hc⟩:=hb
 refine IsN.m (isn c61) (args:=[.agg #[vi b.op,vi b.sl,pv,cv],lv,vi k]) rfl ?_
 unfold n61
 refine wkT ?_
 refine ZaX l.length (fun j H'=>H=H'∧∀ i,i<j->lieB b l k i=true) (fun j=>[(1,lv),(2,vi k),(3,vi 0),(7,vi j)]) (fun _=>[(3,[vi b.op,vi b.sl,pv,cv])]) ⟨rfl,fun _ h=>by omega⟩ ⟨rfl,rfl,rfl,rfl,trivial⟩ ⟨rfl,trivial⟩ ?_
 rintro j _ hj ⟨rfl,hI⟩
 refine wkT ?_
 refine Zav hlv rfl ?_
 refine wkT ?_
 refine wiT (fun h1=>?_) (fun h1=>?_)
 ·have hj':j<l.length:=by omega
  have hjp:j<b.pts.length:=by omega
  have ept:ptAt b j=b.pts[j]:=Zbd hjp _
  have el:l.getD j 0=l[j]:=Zbd hj' _
  have s1:=okp.bl j hjp
  have s2:=okp.bh j hjp
  have s3:=okp.w j hjp
  have s4:=okl _ (List.getElem_mem hj')
  rw[<-ept]at s1 s2 s3
  rw[<-el]at s4
  obtain⟨a1,a2⟩:=s1
  obtain⟨a3,a4⟩:=s2
  obtain⟨a5,a6⟩:=s3
  obtain⟨a7,a8⟩:=s4
  obtain⟨a9,a10⟩:=hk
  refine wkT ?_
  refine ZaE hp rfl rfl rfl (i:=j) hjp fun a ha=>?_
  rw[<-ept]at ha
  refine wkT ?_
  refine Zao (hs _) rfl ha rfl ?_
  refine wkT ?_
  refine ZaE hlv rfl rfl rfl (i:=j) hj' fun a2 ha2=>?_
  rw[<-el]at ha2
  refine wkT ?_
  refine Zaf (hs _) rfl ha2 ?_
  refine wkT ?_
  have hfin:lieB b l k j=false->Waf b l k=false:=fun h=>by
   rw[Bool.eq_false_iff]
   intro e
   rw[Waf,List.all_eq_true]at e
   rw[e j (by simpa using hj')]at h
   exact absurd h (by simp)
  refine wiT (fun h2=>?_) (fun h2=>?_)
  ·refine wkT ?_
   refine⟨rfl,?_⟩
   rw[hfin (by simp only[lieB,h2];simp)]
   rfl
  ·refine wkT ?_
   refine ZaE hlv rfl rfl rfl (i:=j) hj' fun a3 ha3=>?_
   rw[<-el]at ha3
   refine wkT ?_
   refine Zaf (hs _) rfl ha3 ?_
   refine wkT ?_
   refine wiT (fun h3=>?_) (fun h3=>?_)
   ·refine wkT ?_
    refine⟨rfl,?_⟩
    rw[hfin (by simp only[lieB,h3];simp)]
    rfl
   ·refine wkT ?_
    have hI':∀ i,i<j+1->lieB b l k i=true:=fun i hi=>by
     rcases Nat.lt_or_ge i j with h | h
     ·exact hI i h
     ·obtain rfl:i=j:=by omega
      simp only[lieB,h2,h3];simp
    exact Waw (I:=fun j H'=>H=H'∧∀ i,i<j->lieB b l k i=true) (env:=fun j=>[(1,lv),(2,vi k),(3,vi 0),(7,vi j)]) (box:=fun _=>[(3,[vi b.op,vi b.sl,pv,cv])]) hj' ⟨rfl,hI'⟩ ⟨rfl,rfl,rfl,rfl,trivial⟩ ⟨rfl,trivial⟩ rfl
 ·refine wkT ?_
  have:Waf b l k=true:=by
   rw[Waf,List.all_eq_true]
   intro i hi
   exact hI i (by have:=List.mem_range.1 hi;omega)
  rw[this]
  exact⟨rfl,rfl⟩
end
end Go.Proofs
end
section
open Go Go.LL
namespace Go.Proofs
theorem Wau:∀ (l:List Int) (f:Int),(Zbq gtB f l=f∨Zbq gtB f l∈l)∧f<=Zbq gtB f l∧∀ x∈l,x<=Zbq gtB f l
 | [],f=>⟨.inl rfl,Int.le_refl _,by simp⟩
 | x :: l,f=>by
  have e:Zbq gtB f (x :: l)=Zbq gtB (if gtB x f then x else f) l:=rfl
  rw[e]
  by_cases hx:gtB x f=true
  ·rw[if_pos hx]
   obtain⟨h1,h2,h3⟩:=Wau l x
   have hx':f<x:=of_decide_eq_true hx
   refine⟨.inr (List.mem_cons.2 h1),by omega,fun y hy=>?_⟩
   rcases List.mem_cons.1 hy with rfl | hy
   ·exact h2
   ·exact h3 y hy
  ·rw[if_neg hx]
   obtain⟨h1,h2,h3⟩:=Wau l f
   have hx':¬ f<x:=fun h=>hx (decide_eq_true h)
   refine⟨h1.imp id (List.mem_cons_of_mem _),h2,fun y hy=>?_⟩
   rcases List.mem_cons.1 hy with rfl | hy
   ·omega
   ·exact h3 y hy
theorem Wat:∀ (l:List Int) (f:Int),(Zbq ltB f l=f∨Zbq ltB f l∈l)∧Zbq ltB f l<=f∧∀ x∈l,Zbq ltB f l<=x
 | [],f=>⟨.inl rfl,Int.le_refl _,by simp⟩
 | x :: l,f=>by
  have e:Zbq ltB f (x :: l)=Zbq ltB (if ltB x f then x else f) l:=rfl
  rw[e]
  by_cases hx:ltB x f=true
  ·rw[if_pos hx]
   obtain⟨h1,h2,h3⟩:=Wat l x
   have hx':x<f:=of_decide_eq_true hx
   refine⟨.inr (List.mem_cons.2 h1),by omega,fun y hy=>?_⟩
   rcases List.mem_cons.1 hy with rfl | hy
   ·exact h2
   ·exact h3 y hy
  ·rw[if_neg hx]
   obtain⟨h1,h2,h3⟩:=Wat l f
   have hx':¬ x<f:=fun h=>hx (decide_eq_true h)
   refine⟨h1.imp id (List.mem_cons_of_mem _),h2,fun y hy=>?_⟩
   rcases List.mem_cons.1 hy with rfl | hy
   ·omega
   ·exact h3 y hy
theorem max_of {L:List Int}(h:L≠[]):Zbq gtB (L.getD 0 0) (L.drop 1)∈L∧∀ x∈L,x<=Zbq gtB (L.getD 0 0) (L.drop 1):=by
 cases L with
 | nil=>exact absurd rfl h
 | cons a l=>
  obtain⟨h1,h2,h3⟩:=Wau l a
  refine⟨List.mem_cons.2 h1,fun y hy=>?_⟩
  rcases List.mem_cons.1 hy with rfl | hy
  ·exact h2
  ·exact h3 y hy
theorem min_of {L:List Int}(h:L≠[]):Zbq ltB (L.getD 0 0) (L.drop 1)∈L∧∀ x∈L,Zbq ltB (L.getD 0 0) (L.drop 1)<=x:=by
 cases L with
 | nil=>exact absurd rfl h
 | cons a l=>
  obtain⟨h1,h2,h3⟩:=Wat l a
  refine⟨List.mem_cons.2 h1,fun y hy=>?_⟩
  rcases List.mem_cons.1 hy with rfl | hy
  ·exact h2
  ·exact h3 y hy
theorem Wae {b:Bk}(g:N4)(h:1<=b.pts.length):(∀ i,i<b.pts.length->(ptAt b i).bl-g.get i<=lowF b g)∧∃ i,i<b.pts.length∧lowF b g=(ptAt b i).bl-g.get i:=by
 have hne:ZgC b g≠[]:=by
  intro e
  have:(ZgC b g).length=b.pts.length:=by simp[ZgC]
  rw[e]at this;simp at this;omega
 obtain⟨h1,h2⟩:=max_of hne
 refine⟨fun i hi=>h2 _ (List.mem_map.2 ⟨i,List.mem_range.2 hi,rfl⟩),?_⟩
 obtain⟨i,hi,e⟩:=List.mem_map.1 h1
 exact⟨i,List.mem_range.1 hi,e.symm⟩
theorem Waa {b:Bk}(g:N4)(h:1<=b.pts.length):(∀ i,i<b.pts.length->Zfc b g<=(ptAt b i).bh-(ptAt b i).w-g.get i)∧∃ i,i<b.pts.length∧Zfc b g=(ptAt b i).bh-(ptAt b i).w-g.get i:=by
 have hne:ZdK b g≠[]:=by
  intro e
  have:(ZdK b g).length=b.pts.length:=by simp[ZdK]
  rw[e]at this;simp at this;omega
 obtain⟨h1,h2⟩:=min_of hne
 refine⟨fun i hi=>h2 _ (List.mem_map.2 ⟨i,List.mem_range.2 hi,rfl⟩),?_⟩
 obtain⟨i,hi,e⟩:=List.mem_map.1 h1
 exact⟨i,List.mem_range.1 hi,e.symm⟩
theorem Wav {b:Bk}{l:List Int}{k:Int}{i:Nat}:lieB b l k i=true↔(ptAt b i).bl<=l.getD i 0+k∧l.getD i 0+k+(ptAt b i).w<=(ptAt b i).bh:=by
 simp only[lieB,Bool.not_eq_true',Bool.or_eq_false_iff,decide_eq_false_iff_not]
 omega
theorem lies_iff {b:Bk}{l:List Int}{k:Int}:Waf b l k=true↔∀ i,i<l.length->(ptAt b i).bl<=l.getD i 0+k∧l.getD i 0+k+(ptAt b i).w<=(ptAt b i).bh:=by
 rw[Waf,List.all_eq_true]
 exact⟨fun h i hi=>Wav.1 (h i (List.mem_range.2 hi)),fun h i hi=>Wav.2 (h i (List.mem_range.1 hi))⟩
theorem WaC {b:Bk}{l:List Int}{k:Int}(hl:l.length=b.pts.length)(h1:1<=b.pts.length)(h4:b.pts.length<=4):Waf b l k=true↔lowF b (n4of l)<=k∧k<=Zfc b (n4of l):=by
 obtain⟨a1,i,hi,a2⟩:=Wae (b:=b) (n4of l) h1
 obtain⟨c1,j,hj,c2⟩:=Waa (b:=b) (n4of l) h1
 rw[lies_iff]
 constructor
 ·intro h
  have e1:=h i (by omega)
  have e2:=h j (by omega)
  rw[Wad (by omega)]at a2 c2
  omega
 ·rintro⟨e1,e2⟩ t ht
  have f1:=a1 t (by omega)
  have f2:=c1 t (by omega)
  rw[Wad (by omega)]at f1 f2
  omega
theorem WaB {b:Bk}{l m:List Int}{n:Int}(h1:1<=b.pts.length)(h4:b.pts.length<=4)(h:∀ i,i<b.pts.length->m.getD i 0=l.getD i 0+n):lowF b (n4of m)=lowF b (n4of l)-n∧Zfc b (n4of m)=Zfc b (n4of l)-n:=by
 have hg:∀ i,i<b.pts.length->(n4of m).get i=(n4of l).get i+n:=fun i hi=>by rw[Wad (by omega),Wad (by omega),h i hi]
 obtain⟨a1,i,hi,a2⟩:=Wae (b:=b) (n4of l) h1
 obtain⟨c1,j,hj,c2⟩:=Waa (b:=b) (n4of l) h1
 obtain⟨d1,i',hi',d2⟩:=Wae (b:=b) (n4of m) h1
 obtain⟨e1,j',hj',e2⟩:=Waa (b:=b) (n4of m) h1
 have f1:=a1 i' hi'
 have f2:=d1 i hi
 have f3:=c1 j' hj'
 have f4:=e1 j hj
 rw[hg _ hi']at d2
 rw[hg _ hi]at f2
 rw[hg _ hj']at e2
 rw[hg _ hj]at f4
 omega
theorem War (b:Bk):∀ j,1<=j->roomB b j<j∧(∀ i,i<j->ZfF b (roomB b j)<=ZfF b i)∧∀ i,i<roomB b j->ZfF b (roomB b j)<ZfF b i
 | 0,h=>by omega
 | 1,_=>by
  have:roomB b 1=0:=by rw[roomB];split<;>rfl
  rw[this]
  refine⟨by omega,fun i hi=>?_,fun i hi=>by omega⟩
  have h0:i=0:=by omega
  rw[h0];exact Int.le_refl _
 | j+2,_=>by
  obtain⟨h1,h2,h3⟩:=War b (j+1) (by omega)
  rw[roomB]
  split
  ·rename_i h
   refine⟨by omega,fun i hi=>?_,fun i hi=>?_⟩
   ·by_cases e:i<j+1
    ·have:=h2 i e;omega
    ·obtain rfl:i=j+1:=by omega
     exact Int.le_refl _
   ·have:=h2 i hi;omega
  ·rename_i h
   refine⟨by omega,fun i hi=>?_,h3⟩
   by_cases e:i<j+1
   ·exact h2 i e
   ·obtain rfl:i=j+1:=by omega
    omega
end Go.Proofs
end
section
open Go Go.LL
namespace Go.Proofs
theorem ckS_of {n:Nat}:∀ {l:List SCk},(∀ c∈l,(0<=c.p∧c.p<n)∧(-199<=c.gl∧c.gl<=c.gh∧c.gh<=199))->ckS n l=0
 | [],_=>rfl
 | c :: l,h=>by
  have h1:=h c (List.mem_cons_self ..)
  rw[ckS,if_neg (by omega),if_neg (by omega)]
  exact ckS_of fun d hd=>h d (List.mem_cons_of_mem _ hd)
theorem Way {b:Bk}(v:Zeo b):snag b=0:=by
 have h1:Zbj b=0:=by rw[Zbj,if_pos ⟨v.op,v.sl⟩]
 have h2:Zbk b=0:=by
  rw[Zbk,if_neg (by have:=v.n;omega),if_pos]
  rw[List.all_eq_true]
  intro p hp
  obtain⟨i,hi,rfl⟩:=List.mem_iff_getElem.1 hp
  obtain⟨a1,a2,a3,a4⟩:=v.pts i hi
  simp only[okP,Bool.and_eq_true,decide_eq_true_eq]
  exact⟨⟨⟨a1,a2⟩,a3⟩,a4⟩
 have h3:ckS b.pts.length b.cks=0:=ckS_of v.cks
 rw[snag,if_neg (by simp[h1]),if_neg (by simp[h2]),ZbJ,if_neg (by have:=v.ckn;omega),h3]
end Go.Proofs
end
section
open Go Go.LL
namespace Go.Proofs
end Go.Proofs
end
section
open Go Go.LL
namespace Go.Proofs
structure Wider (b o:Bk):Prop where
 op:o.op=b.op
 sl:o.sl=b.sl
 cks:o.cks=b.cks
 n:o.pts.length=b.pts.length
 ml:∀ i,i<b.pts.length->(ptAt o i).ml=(ptAt b i).ml∧(ptAt o i).mh=(ptAt b i).mh
 w:∀ i,i<b.pts.length->(ptAt o i).w=(ptAt b i).w
 b:∀ i,i<b.pts.length->(ptAt o i).bl<=(ptAt b i).bl∧(ptAt b i).bh<=(ptAt o i).bh
end Go.Proofs
end
section
open Go Go.LL
namespace Go.Proofs
structure Learn (b o:Bk):Prop where
 op:o.op=b.op
 n:o.pts.length=b.pts.length
 bd:∀ i,i<b.pts.length->(ptAt o i).bl=(ptAt b i).bl∧(ptAt o i).bh=(ptAt b i).bh∧(ptAt o i).w=(ptAt b i).w
 sub:∀ x∈Zae o,x∈Zae b
theorem Learn.pos {b o:Bk}(h:Learn b o)(h0:0<(Zae o).length):0<(Zae b).length:=by
 obtain⟨x,hx⟩:=List.exists_mem_of_length_pos h0
 exact List.length_pos_of_mem (h.sub x hx)
end Go.Proofs
end
section
open Go Go.LL
namespace Go.Proofs
end Go.Proofs
end
section
open Go Go.LL
namespace Go.Proofs
end Go.Proofs
end
section
open Go Go.LL
namespace Go.Proofs
section
variable  {P:Prg}[Tz P][Loud P]{H:Hp}
set_option maxHeartbeats 4000000
set_option maxRecDepth 20000
end
end Go.Proofs
end
