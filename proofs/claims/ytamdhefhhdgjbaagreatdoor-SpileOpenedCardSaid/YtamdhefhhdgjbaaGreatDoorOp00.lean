/- proofs about Leango given: part Op0; made by a program out of the longer texts in wip -/
import Derived.Test.YtamdhefhhdgjbaaGreatDoorP44
set_option linter.all false
section
namespace Go.LL
section
variable  {P:Prg}{d:Option Nat}{next:NSt->Hp->Prop}{σ:NSt}{H:Hp}{x y z:Operand}{v:Value}{ty:TypeId}
theorem WaI {k:IntKind}{m n:Int}{t t2:TypeId}(e1:σ.get x=some (.int k m))(e2:σ.get y=some (.int k n))(hn:n≠0)(h:next (σ.set d (.int k (m.tmod n))) H):(NOp.pur (.binOp .rem t x y t2) ty).m P d next σ H:=by
 refine Zcb (by simp[Op.operands,e1,e2]) ?_ h
 have:execOp (fun x=>(σ.get x).getD undef) (bare (.binOp .rem t x y t2) ty)=pure (.value (.int k (m.tmod n))):=by simp[execOp,bare,e1,e2,eqGuard,binOp,Op.intDiv,hn]
 rw[this]
 exact fun Q g H hq=>hq
end
end Go.LL
end
section
open Go Go.LL Go.Z
namespace Go.Proofs
def n73:Zai:=(sq [o 2 (.lbox 2 [2,10,17,31,39,44] (t 0)),o 4 (.mov (.const s0)),o 5 (.lzero 5 [5] [z0,z0])] (sq [o 6 (.mov (.const s0))] (.seq (sq [mi 7 0] (.block 0 (.loop (.seq (sq [m 9 7,f 10 2 2,ln 11 2 10,le 12 11,b 13 .lss 9 12] (.cond (t 13) .skip (.exit 0))) (.seq (.block 1 (.drawn [(m 16 6,none),(f 17 2 2,none),(ln 18 2 17,none),(m 19 7,none),(ia 20 5 18 19,none),(o 21 (.fadr 0 (t 20)),none),(lm 22 2 21,none),(m 23 1,none),(m 24 7,none),(c2 25 58 23 24,(some true)),(c2 26 136 22 25,(some false)),(o 27 (.buildS 3 1 [z0] [(0,(1,(t 26)))]),(some false)),(o 28 (.raw (.call (.mk (.builtin .append) #[(t 16),(t 27)] #[34,34])) 34),none),(m 6 28,none)])) (.ops [m 14 7,bk 15 .add 14 1,m 7 15])))))) (.seq (.drawn [(m 29 1,none),(f 31 2 2,none),(ln 32 2 31,none),(le 33 32,none),(bk 34 .sub 33 1,none),(m 37 1,none),(f 39 1 2,none),(ln 40 2 39,none),(o 41 (.bin .mul (k 2) (t 40)),none),(bk 42 .add 41 1,none),(f 44 1 2,none),(ln 45 2 44,none),(o 8 (.lzero 8 [8,48,51] [z0,z0]),none),(o 30 (.call 58 [(t 29),(k 4)]),(some false)),(o 35 (.pur (.binOp .rem 3 (t 30) (t 34) 3) 3),none),(o 36 (.bin .add (k 1) (t 35)),none),(o 38 (.call 58 [(t 37),(k 5)]),(some false)),(o 43 (.pur (.binOp .rem 3 (t 38) (t 42) 3) 3),none),(b 46 .sub 43 45,none),(o 47 (.build [z0,z0] [(0,(1,(t 36))),(1,(1,(t 46)))]),none),(ls 8 2 8 47,none)]) (.seq (sq [f 48 1 8,ln 49 8 48,bk 50 .eql 49 0] (.cond (t 50) (.ops [f 51 0 8,u (.lst 8 1 51 (k 0))]) .skip)) (.seq (.drawn [(m 52 6,none),(l 53 8 2 8,none),(m 4 52,none),(ls 5 2 5 53,none)]) .ret))))))
def r73:List NRes:=[(.slot 4),(.var 5 5 (some 2))]
theorem c73:IsN Tryz.prog 73 2 n73 r73:=isq [(2,2),(5,5),(8,8),(10,2),(17,2),(31,2),(39,2),(44,2),(48,8),(51,8)] Tryz.func73
end Go.Proofs
end
section
open Go Go.LL Go.Z
namespace Go.Proofs
def n136:Zai:=(sq [o 2 (.lbox 2 [2,5,8,10] (t 0)),mi 4 0] (.seq (.drawn [(f 5 0 2,none),(ln 6 2 5,none),(m 7 1,none),(f 8 1 2,none),(ln 9 2 8,none),(f 10 0 2,none),(ln 11 2 10,none),(b 12 .sub 9 11,none),(bk 13 .add 12 1,none),(o 14 (.pur (.binOp .rem 3 (t 7) (t 13) 3) 3),none),(b 15 .add 6 14,none),(m 4 15,none)]) .ret))
def r136:List NRes:=[(.slot 4)]
theorem c136:IsN Tryz.prog 136 2 n136 r136:=isq [(2,2),(5,2),(8,2),(10,2)] Tryz.func136
end Go.Proofs
end
section
open Go Go.LL
namespace Go.Proofs
theorem ui4:Tryz.prog.underlying 4=some .bool:=by kernel_rfl
section
variable  {P:Prg}[Tz P]{H:Hp}{g:Bool}{d:Nat}
end
end Go.Proofs
end
section
open Go Go.LL
namespace Go.Proofs
section
variable  {P:Prg}[Tz P]{H:Hp}{d:Option Nat}{next:NSt->Hp->Prop}{σ:NSt}{x y:Operand}{ty t2:TypeId}{v:Value}
theorem eq4_w' {a b:Bool}(d:Nat)(Q:Bool->Bool->Hp->Prop)(g:Bool)(H:Hp)(hq:Q (a == b) g H):wpL P.toPQ (Op.equalIn (d+1) 4 (vb a) (vb b)) Q g H:=by
 simp only[Op.equalIn,Zaa,Zad (und (P:=P) ui4),Zac]
 exact hq
theorem eq4_w {a b:Bool}(Q:Bool->Bool->Hp->Prop)(g:Bool)(H:Hp)(hq:Q (a == b) g H):wpL P.toPQ (Op.equalIn (9999+1) 4 (vb a) (vb b)) Q g H:=eq4_w' 9999 Q g H hq
theorem om_eqb {a b:Bool}(e1:σ.get x=some (vb a))(e2:σ.get y=some (vb b))(h:next (σ.set d (vb (a == b))) H):(NOp.pur (.binOp .eql 4 x y t2) ty).m P d next σ H:=by
 refine Zcb (by simp[Op.operands,e1,e2]) ?_ h
 have:execOp (fun x=>(σ.get x).getD undef) (bare (.binOp .eql 4 x y t2) ty)=(do let v <-(do eqGuard .eql 4 x y (vb a) (vb b);binOp .eql 4 (vb a) (vb b));pure (.value v)):=by simp[execOp,bare,e1,e2]
 rw[this]
 refine Zgz fun Q g H hq=>?_
 simp only[eqGuard,Zaa,Zac]
 exact Zaa.2 (eq4_w _ _ _ hq)
end
end Go.Proofs
end
section
open Go Go.LL Go.Z
namespace Go.Proofs
def n13:Zai:=(sq [o 4 (.lbox 4 [4,53,58,64,77,86] (t 0)),m0 8] (.seq (sq [l 38 4 4 4,c1 39 48 38,o 40 (.not (t 39))] (.cond (t 40) (sq [c0 41 18,m 8 41] .ret) .skip)) (sq [l 43 4 4 4,m 44 1,c2 45 73 43 44,m 42 45,x 46 42 0,x 47 42 1,o 10 (.lzero 10 [10] [z0,z0]),m 9 46,ls 10 2 10 47] (.seq (.drawn [(m 48 2,none),(o 49 (.pur (.convert 5 3 (t 48)) 3),none),(o 50 (.pur (.binOp .rem 3 (t 49) (k 100) 3) 3),none),(m 51 3,none),(o 52 (.pur (.convert 5 3 (t 51)) 3),none),(f 53 2 4,none),(ln 54 4 53,none),(le 55 54,none),(o 56 (.pur (.binOp .rem 3 (t 52) (t 55) 3) 3),none),(m 11 50,none),(m 12 56,none)]) (sq [l 57 4 4 4,o 13 (.lzero 13 [13,62,67,74] [z0,z0,s0,s0]),ls 13 4 13 57] (sq [f 58 0 4,ln 59 4 58,m 60 11,b 61 .add 59 60,f 62 0 13,ls 13 1 62 61] (sq [o 63 (.raw (.buildSlice 22 0 #[]) 22),f 64 2 4,ln 65 4 64,o 66 (.raw (.call (.mk (.builtin .append) #[(t 63),(t 65)] #[22,22])) 22),f 67 2 13,ls 13 1 67 66] (sq [o 14 (.mov (.const s0))] (.seq (sq [mi 15 0] (.block 0 (.loop (.seq (sq [m 68 15,m 69 9,le 70 69,b 71 .lss 68 70] (.cond (t 71) .skip (.exit 0))) (.seq (.block 1 (.seq (.drawn [(f 74 2 13,none),(ln 75 13 74,none),(m 76 15,none),(f 77 2 4,none),(ln 78 4 77,none),(m 79 15,none),(ia 80 5 78 79,none),(o 81 (.fadr 0 (t 80)),none),(o 82 (.fadr 0 (t 81)),none),(ld 83 82,none),(m 84 11,none),(b 85 .add 83 84,none),(f 86 2 4,none),(ln 87 4 86,none),(m 88 15,none),(ia 89 5 87 88,none),(o 90 (.fadr 0 (t 89)),none),(o 91 (.fadr 1 (t 90)),none),(ld 92 91,none),(m 93 11,none),(b 94 .add 92 93,none),(c2 95 62 85 94,(some false)),(ia 96 5 75 76,none),(o 97 (.fadr 0 (t 96)),none),(st 49 97 95 0,none)]) (.ops [m 98 14,m 99 9,m 100 15,ia 101 1 99 100,ld 102 101,m 103 11,b 104 .add 102 103,o 105 (.buildS 3 1 [z0] [(0,(1,(t 104)))]),o 106 (.raw (.call (.mk (.builtin .append) #[(t 98),(t 105)] #[34,34])) 34),m 14 106]))) (.ops [m 72 15,bk 73 .add 72 1,m 15 73])))))) (.seq (sq [l 107 13 4 13,c1 108 64 107,bk 109 .neq 108 0] (.cond (t 109) (sq [c0 110 18,m 8 110] .ret) .skip)) (sq [l 112 4 4 4,m 113 9,l 114 10 2 10,c3 115 74 112 113 114,m 111 115,x 116 111 0,x 117 111 1,m 16 116,m 17 117] (sq [l 119 13 4 13,m 120 14,l 121 10 2 10,c3 122 74 119 120 121,m 118 122,x 123 118 0,x 124 118 1,m 18 123,m 19 124] (sq [l 126 4 4 4,c1 127 19 126,m 125 127,x 128 125 0,x 129 125 1,m 20 128,m 21 129] (sq [l 131 13 4 13,c1 132 19 131,m 130 132,x 133 130 0,x 134 130 1,m 22 133,m 23 134] (sq [l 136 4 4 4,m 137 12,c2 138 29 136 137,m 135 138,x 139 135 0,x 140 135 1,m 24 139,m 25 140] (sq [l 142 13 4 13,m 143 12,c2 144 29 142 143,m 141 144,x 145 141 0,x 146 141 1,m 26 145,m 27 146] (sq [l 148 4 4 4,c1 149 31 148,m 147 149,x 150 147 0,x 151 147 1,m 28 150,m 29 151] (sq [l 153 13 4 13,c1 154 31 153,m 152 154,x 155 152 0,x 156 152 1,m 30 155,m 31 156] (sq [l 158 4 4 4,c1 159 33 158,m 157 159,x 160 157 0,x 161 157 1,x 162 157 2,m 32 160,m 33 161,m 34 162] (sq [l 164 13 4 13,c1 165 33 164,m 163 165,x 166 163 0,x 167 163 1,x 168 163 2,m 35 166,m 36 167,m 37 168] (sq [m 169 17,bk 170 .eql 169 0,m 171 170,mt 171 172 19,gt 171 173 (.bin .eql (t 172) (k 0)),pa 174 171 173,m 175 174,mt 175 176 21,gt 175 177 (.bin .eql (t 176) (k 0)),pa 178 175 177,m 179 178,mt 179 180 23,gt 179 181 (.bin .eql (t 180) (k 0)),pa 182 179 181,m 183 182,mt 183 184 25,mt 183 185 27,gt 183 186 (.bin .eql (t 184) (t 185)),pa 187 183 186,m 188 187,mt 188 189 29,mt 188 190 31,gt 188 191 (.bin .eql (t 189) (t 190)),pa 192 188 191,m 193 192,mt 193 194 34,mt 193 195 37,gt 193 196 (.bin .eql (t 194) (t 195)),pa 197 193 196,m 198 197,mt 198 199 16,mt 198 200 18,gt 198 201 (.call 25 [(t 199),(t 200)]),pa 202 198 201,m 203 202,mt 203 204 20,mt 203 205 22,gt 203 206 (.bin .eql (t 204) (t 205)),pa 207 203 206,m 208 207,mt 208 209 24,mt 208 210 26,gt 208 211 (.call 25 [(t 209),(t 210)]),pa 212 208 211,m 213 212,mt 213 214 28,mt 213 215 30,gt 213 216 (.bin .eql (t 214) (t 215)),pa 217 213 216,m 218 217,mt 218 219 32,mt 218 220 35,gt 218 221 (.bin .eql (t 219) (t 220)),pa 222 218 221,m 223 222,mt 223 224 33,mt 223 225 36,gt 223 226 (.pur (.binOp .eql 4 (t 224) (t 225) 4) 4),pa 227 223 226,m 228 227,gt 228 229 (.call 18 []),pa 230 228 229,m 8 230] .ret)))))))))))))))))))))
def r13:List NRes:=[(.slot 8)]
theorem c13:IsN Tryz.prog 13 4 n13 r13:=isq [(4,4),(10,10),(13,13),(53,4),(58,4),(62,13),(64,4),(67,13),(74,13),(77,4),(86,4)] Tryz.func13
end Go.Proofs
end
section
open Go Go.LL
namespace Go.Proofs
theorem ints_1 {H:Hp}{r:Nat}{E:TypeId}{x:Int}:SlAt (H.ins r (.cells [vi x].toArray E)) (.slice (some ⟨r,0,none⟩) 1 1) [x]:=Za4 (l:=[x])
section
variable  {P:Prg}[Tz P][Loud P]{H:Hp}
set_option maxHeartbeats 2000000
set_option maxRecDepth 20000
end
end Go.Proofs
end
section
open Go Go.LL
namespace Go.Proofs
def Wah (b:Bk)(i:Nat):List Int:=(List.range ((ptAt b i).mh-(ptAt b i).ml+1).toNat).map fun (t:Nat)=>(ptAt b i).ml+t
def mkL (b:Bk):Nat->List (List Int)
 | 0=>[[]]
 | i+1=>(mkL b i).flatMap fun l=>(Wah b i).map fun n=>l++[n]
theorem mk_mem {b:Bk}(v:Zeo b):∀ i,i<=b.pts.length->∀ l∈mkL b i,l.length=i∧∀ x∈l,0<=x∧x<=99
 | 0,_,l,hl=>by
  rw[mkL,List.mem_singleton]at hl
  subst hl;simp
 | i+1,hi,l,hl=>by
  rw[mkL,List.mem_flatMap]at hl
  obtain⟨m,hm,hl⟩:=hl
  obtain⟨n,hn,rfl⟩:=List.mem_map.1 hl
  obtain⟨h1,h2⟩:=mk_mem v i (by omega) m hm
  refine⟨by simp[h1],fun x hx=>?_⟩
  rcases List.mem_append.1 hx with hx | hx
  ·exact h2 x hx
  ·rw[List.mem_singleton.1 hx]
   rw[Wah,List.mem_map]at hn
   obtain⟨t,ht,rfl⟩:=hn
   rw[List.mem_range]at ht
   rw[show ptAt b i=b.pts[i] from Zbd (by omega) _]at ht ⊢
   have:=v.pts i (by omega)
   omega
section
variable  {P:Prg}[Tz P][Loud P]{H:Hp}
set_option maxHeartbeats 4000000
set_option maxRecDepth 20000
end
end Go.Proofs
end
section
open Go Go.LL
namespace Go.Proofs
def bodyF (b:Bk)(l:List Int)(ks:List Slip):List Boat:=(ks.map fun k=>(⟨n4of l,k.bf,k.by_⟩:Boat)).filter (ZgQ b)
def WaF (hi:Int):Nat->List Int
 | 0=>[]
 | c+1=>(hi-c) :: WaF hi c
theorem Wav (f:Int->List Boat)(hi:Int):∀ c,spanR f hi c=(WaF hi c).flatMap f
 | 0=>rfl
 | c+1=>by rw[spanR,WaF,List.flatMap_cons,Wav f hi c]
theorem WaE {hi:Int}:∀ {c:Nat},(WaF hi c).length=c∧∀ t,t<c->(WaF hi c)[t]? = some (hi-(c-1-t:Nat))
 | 0=>⟨rfl,fun t h=>by omega⟩
 | c+1=>by
  obtain⟨h1,h2⟩:=@WaE hi c
  refine⟨by rw[WaF,List.length_cons,h1],fun t ht=>?_⟩
  rw[WaF]
  cases t with
  | zero=>simp
  | succ t=>rw[List.getElem?_cons_succ,h2 t (by omega)];congr 2;omega
theorem spanL_eq {b:Bk}{i:Nat}:WaF (ptAt b i).mh ((ptAt b i).mh-(ptAt b i).ml+1).toNat=Wah b i:=by
 obtain⟨h1,h2⟩:=@WaE (ptAt b i).mh ((ptAt b i).mh-(ptAt b i).ml+1).toNat
 have hl:(Wah b i).length=((ptAt b i).mh-(ptAt b i).ml+1).toNat:=by simp[Wah]
 refine List.ext_getElem? fun t=>?_
 by_cases ht:t<((ptAt b i).mh-(ptAt b i).ml+1).toNat
 ·rw[h2 t ht,Wah,List.getElem?_map,List.getElem?_range ht]
  show some ((ptAt b i).mh-((((ptAt b i).mh-(ptAt b i).ml+1).toNat-1-t:Nat):Int))=some ((ptAt b i).ml+(t:Int))
  congr 1;omega
 ·rw[List.getElem?_eq_none (by omega),List.getElem?_eq_none (by omega)]
def lvN (b:Bk):Nat->List N4
 | 0=>[⟨0,0,0,0⟩]
 | i+1=>(lvN b i).flatMap fun m=>(Wah b i).map fun n=>m.put i n
theorem Wak {α β γ:Type}(l:List α)(f:α->List β)(g:β->List γ):(l.flatMap f).flatMap g=l.flatMap fun a=>(f a).flatMap g:=by
 induction l with
 | nil=>rfl
 | cons a l ih=>simp[List.flatMap_cons,List.flatMap_append,ih]
theorem Waa {α β γ:Type}(l:List α)(f:α->β)(g:β->List γ):(l.map f).flatMap g=l.flatMap fun a=>g (f a):=by
 induction l with
 | nil=>rfl
 | cons a l ih=>simp[List.flatMap_cons,ih]
theorem Wab {α β:Type}{l:List α}{f g:α->List β}(h:∀ a∈l,f a=g a):l.flatMap f=l.flatMap g:=by
 induction l with
 | nil=>rfl
 | cons a l ih=>rw[List.flatMap_cons,List.flatMap_cons,h a (List.mem_cons_self ..),ih fun x hx=>h x (List.mem_cons_of_mem _ hx)]
theorem lv_step {b:Bk}{r i:Nat}(h:b.pts.length=i+(r+1)):(lvN b (i+1)).flatMap (boatsFrom b r)=(lvN b i).flatMap (boatsFrom b (r+1)):=by
 rw[lvN,Wak]
 congr 1
 funext m
 rw[Waa,boatsFrom,Wav]
 have e:b.pts.length-(r+1)=i:=by omega
 rw[e,spanL_eq]
theorem lv_all {b:Bk}:∀ (r i:Nat),b.pts.length=i+r->(lvN b i).flatMap (boatsFrom b r)=(lvN b b.pts.length).flatMap (boatsFrom b 0)
 | 0,i,h=>by rw[h,Nat.add_zero]
 | r+1,i,h=>by rw[<-lv_step h];exact lv_all r (i+1) (by omega)
theorem boats_lv (b:Bk):Zae b=(lvN b b.pts.length).flatMap (boatsFrom b 0):=by
 rw[<-lv_all b.pts.length 0 (by omega)]
 simp[lvN,Zae]
theorem Wal {l:List Int}{j:Nat}(hj:j<4):(n4of l).get j=l.getD j 0:=N4.of_get _ hj
theorem lv_mk {b:Bk}(v:Zeo b):∀ i,i<=b.pts.length->lvN b i=(mkL b i).map n4of
 | 0,_=>rfl
 | i+1,hi=>by
  have hi4:i<4:=by have:=v.n;omega
  rw[lvN,lv_mk v i (by omega),mkL,Waa,List.map_flatMap]
  refine Wab fun l hl=>?_
  rw[List.map_map]
  refine List.map_congr_left fun n _=>?_
  obtain⟨h1,_⟩:=mk_mem v i (by omega) l hl
  refine N4.ext' fun j hj=>?_
  rw[N4.put_get _ _ hj,Wal hj]
  show _=(n4of (l++[n])).get j
  rw[Wal hj]
  simp only[List.getD_eq_getElem?_getD]
  by_cases e:j=i
  ·subst e
   rw[if_pos rfl,List.getElem?_append_right (by omega),h1]
   simp
  ·rw[if_neg e]
   by_cases e2:j<i
   ·rw[List.getElem?_append_left (by omega)]
   ·rw[List.getElem?_eq_none (by omega),List.getElem?_eq_none (by rw[List.length_append,List.length_singleton];omega)]
theorem boats_mk {b:Bk}(v:Zeo b):Zae b=(mkL b b.pts.length).flatMap fun l=>bodyF b l (ZaC b):=by
 rw[boats_lv,lv_mk v _ (Nat.le_refl _),Waa]
 rfl
section
variable  {P:Prg}[Tz P][Loud P]{H:Hp}
set_option maxHeartbeats 4000000
set_option maxRecDepth 20000
end
end Go.Proofs
end
section
open Go Go.LL
namespace Go.Proofs
def insD (x:Int):List Int->List Int
 | []=>[x]
 | y :: r=>if y<x then y :: insD x r else if y=x then y :: r else x :: y :: r
def ordF (l:List Int):List Int:=l.foldl (fun o x=>insD x o) []
theorem WaT (x:Int):∀ l,(insD x l).length<=l.length+1
 | []=>by simp[insD]
 | y :: r=>by
  rw[insD]
  have:=WaT x r
  split
  ·simp only[List.length_cons];omega
  ·split<;>simp
theorem ordF_len:∀ l:List Int,(ordF l).length<=l.length:=by
 refine Zfm (by simp[ordF]) fun l x ih=>?_
 have:=WaT x (ordF l)
 rw[ordF,List.foldl_append,List.length_append,List.length_singleton]
 show (insD x (ordF l)).length<=_
 omega
section
variable  {P:Prg}[Tz P][Loud P]{H:Hp}
set_option maxHeartbeats 4000000
set_option maxRecDepth 20000
end
end Go.Proofs
end
section
open Go Go.LL
namespace Go.Proofs
theorem WaD:∀ {l m:List Int},l.Pairwise (·<·)->m.Pairwise (·<·)->(∀ x,x∈l↔x∈m)->l=m
 | [],[],_,_,_=>rfl
 | [],y :: m,_,_,h=>by have:=(h y).2 (List.mem_cons_self ..);simp at this
 | x :: l,[],_,_,h=>by have:=(h x).1 (List.mem_cons_self ..);simp at this
 | x :: l,y :: m,hl,hm,h=>by
  obtain⟨l1,l2⟩:=List.pairwise_cons.1 hl
  obtain⟨m1,m2⟩:=List.pairwise_cons.1 hm
  have exy:x=y:=by
   have h1:=(h x).1 (List.mem_cons_self ..)
   have h2:=(h y).2 (List.mem_cons_self ..)
   rcases List.mem_cons.1 h1 with rfl | h1
   ·rfl
   ·rcases List.mem_cons.1 h2 with rfl | h2
    ·rfl
    ·have:=l1 y h2;have:=m1 x h1;omega
  subst exy
  congr 1
  refine WaD l2 m2 fun z=>⟨fun hz=>?_,fun hz=>?_⟩
  ·rcases List.mem_cons.1 ((h z).1 (List.mem_cons_of_mem _ hz)) with rfl | hz'
   ·have:=l1 z hz;omega
   ·exact hz'
  ·rcases List.mem_cons.1 ((h z).2 (List.mem_cons_of_mem _ hz)) with rfl | hz'
   ·have:=m1 z hz;omega
   ·exact hz'
theorem WaB (x:Int):∀ (l:List Int) (z:Int),z∈insD x l↔z=x∨z∈l
 | [],z=>by simp[insD]
 | y :: r,z=>by
  rw[insD]
  have ih:=WaB x r z
  split
  ·rw[List.mem_cons,ih,List.mem_cons]
   constructor
   ·rintro(h | h | h)
    ·exact .inr (.inl h)
    ·exact .inl h
    ·exact .inr (.inr h)
   ·rintro(h | h | h)
    ·exact .inr (.inl h)
    ·exact .inl h
    ·exact .inr (.inr h)
  ·split
   ·rename_i h;subst h;rw[List.mem_cons]
    constructor
    ·exact .inr
    ·rintro(h | h)
     ·exact .inl h
     ·exact h
   ·rw[List.mem_cons]
theorem Wbd (x:Int):∀ {l:List Int},l.Pairwise (·<·)->(insD x l).Pairwise (·<·)
 | [],_=>by simp[insD]
 | y :: r,h=>by
  obtain⟨h1,h2⟩:=List.pairwise_cons.1 h
  rw[insD]
  split
  ·rename_i hy
   refine List.pairwise_cons.2 ⟨fun z hz=>?_,Wbd x h2⟩
   rcases(WaB x r z).1 hz with rfl | hz
   ·exact hy
   ·exact h1 z hz
  ·split
   ·exact h
   ·refine List.pairwise_cons.2 ⟨fun z hz=>?_,h⟩
    rcases List.mem_cons.1 hz with rfl | hz
    ·omega
    ·have:=h1 z hz;omega
theorem WaQ:∀ l:List Int,(ordF l).Pairwise (·<·)∧∀ z,z∈ordF l↔z∈l:=by
 refine Zfm ⟨.nil,fun z=>Iff.rfl⟩ fun l x ih=>?_
 have e:ordF (l++[x])=insD x (ordF l):=by rw[ordF,List.foldl_append];rfl
 rw[e]
 refine⟨Wbd x ih.1,fun z=>?_⟩
 rw[WaB,ih.2 z,List.mem_append,List.mem_singleton]
 exact Or.comm
theorem WaU {l:List Int}(h:l.Pairwise (·<=·)):∀ n,n<=l.length->(cmpP l n).Pairwise (·<·)∧(∀ z,z∈cmpP l n↔z∈l.take n)∧(∀ z∈cmpP l n,z<=el l (n-1))
 | 0,_=>⟨.nil,fun z=>by simp[cmpP],fun z hz=>by simp[cmpP]at hz⟩
 | n+1,hn=>by
  obtain⟨h1,h2,h3⟩:=WaU h n (by omega)
  have hmono:∀ i j,i<=j->j<l.length->el l i<=el l j:=by
   intro i j hij hj
   rw[Zhf (by omega),Zhf hj]
   rcases Nat.lt_or_ge i j with h' | h'
   ·exact List.pairwise_iff_getElem.1 h i j (by omega) hj h'
   ·have:i=j:=by omega
    subst this;exact Int.le_refl _
  rw[Zi7 (by omega)]
  by_cases h0:n=0
  ·subst h0
   rw[cmp_one]
   exact⟨List.pairwise_singleton _ _,fun z=>by simp,fun z hz=>by rw[List.mem_singleton.1 hz];exact Int.le_refl _⟩
  ·by_cases he:el l n=el l (n-1)
   ·rw[cmp_eq h0 he]
    refine⟨h1,fun z=>?_,fun z hz=>?_⟩
    ·rw[h2,List.mem_append,List.mem_singleton]
     constructor
     ·exact .inl
     ·rintro(hz | rfl)
      ·exact hz
      ·rw[he]
       have e2:n=(n-1)+1:=by omega
       rw[e2,Zi7 (by omega)]
       simp
    ·have:=h3 z hz;rw[Nat.add_sub_cancel,he];exact this
   ·rw[cmp_ne he]
    refine⟨?_,fun z=>?_,fun z hz=>?_⟩
    ·rw[List.pairwise_append]
     refine⟨h1,List.pairwise_singleton _ _,fun a ha c hc=>?_⟩
     rw[List.mem_singleton.1 hc]
     have g1:=h3 a ha
     have g2:=hmono (n-1) n (by omega) (by omega)
     omega
    ·rw[List.mem_append,h2,List.mem_append]
    ·rw[Nat.add_sub_cancel]
     rcases List.mem_append.1 hz with hz | hz
     ·have g1:=h3 z hz
      have g2:=hmono (n-1) n (by omega) (by omega)
      omega
     ·rw[List.mem_singleton.1 hz];exact Int.le_refl _
theorem cmp_ord {l m:List Int}(h:l.Pairwise (·<=·))(hm:∀ z,z∈l↔z∈m):cmpF l=ordF m:=by
 obtain⟨h1,h2,_⟩:=WaU h l.length (Nat.le_refl _)
 obtain⟨h3,h4⟩:=WaQ m
 exact WaD h1 h3 fun z=>by rw[cmpF,h2,h4,List.take_length];exact hm z
theorem gap_eq {b:Bk}{p:Nat}{m:List Int}(hm:m=(Zae b).map fun x=>(Zas b x).get p):gapL b p=ordF m:=by
 rw[gapL]
 exact cmp_ord (srt_le _) fun z=>by rw[(Zfk _).mem_iff,hm]
end Go.Proofs
end
section
open Go Go.LL
namespace Go.Proofs
theorem Wa8 {α:Type}[Enc α]{H0 H:Hp}{E:TypeId}{v:Value}{l:List α}{b:Option Nat}(h:Own H0 H E v l b):∃ A c,v=.slice A l.length c:=by
 obtain⟨A,c,h1,_⟩:=h.sl
 exact⟨A,c,h1⟩
section
variable  {P:Prg}[Tz P][Loud P]{H:Hp}
set_option maxHeartbeats 8000000
set_option maxRecDepth 40000
theorem Waf {u w:Value}{a:List Int}(ha:SlAt H u a)(hb:SlAt H w a)(hl:a.length<=1000000):LL.Zag P 25 #[u,w] H fun v H'=>H=H'∧v=vb true:=
 LL.Zag.mono (Zia ha hb hl hl) fun v H' h=>⟨h.1,h.2.trans (by rw[decide_eq_true rfl])⟩
end
end Go.Proofs
end
section
open Go Go.LL
namespace Go.Proofs
theorem Wac (l:List U16)(i:Int):0<=Zgj l i∧Zgj l i<65536:=by
 unfold Zgj
 split
 ·exact⟨l[i.toNat].lo,l[i.toNat].hi⟩
 ·omega
section
variable  {P:Prg}[Tz P][Loud P]{H:Hp}
set_option maxHeartbeats 4000000
set_option maxRecDepth 20000
end
end Go.Proofs
end
section
open Go Go.LL Go.Conc Go.ConcM
namespace Go.Proofs
open YtamdhefhhdgjbaaGreatDoor Go.ChangeShapes Go.WideShapes
section
set_option maxRecDepth 100000
variable  {H:Type}{enc:TypeId×Value->H}{W:World}{base:Nat}{sp:Nat->Bool}{held:Bool}{fuel:Nat}{cs:List Value}{y:DataW H×List MemPlace}{r:Reach}{b0:Nat}{v:Value}{d:DataW H}{ps:List MemPlace}
theorem u16_trod (h:DataW.trod enc Tryz.prog W base sp held fuel 168 cs=some y):∃ u:U16,cs=Enc.enc u:=by
 obtain⟨n,rfl,_,hw⟩:=DataW.trod_int Tryz.underlying168 h
 simp only[Lit.wf,Bool.and_eq_true,decide_eq_true_eq]at hw
 have h1:IntKind.u16.min=0:=rfl
 have h2:IntKind.u16.max=65535:=rfl
 exact⟨⟨n,by omega,by omega⟩,rfl⟩
theorem cells168:Tryz.prog.cellsOf 168=1:=by kernel_rfl
theorem under72:Tryz.prog.underlying 72=some (.slice 168):=by kernel_rfl
theorem open_sl {α:Type}[Enc α]{t e:TypeId}(ht:Tryz.prog.underlying t=some (.slice e))(hc:Tryz.prog.cellsOf e=Enc.sz α)(hpos:0<Enc.sz α)
  (hel:∀ {n:Nat} {cs:List Value} {y:DataW H×List MemPlace},DataW.trod enc Tryz.prog W base sp held n e cs=some y->∃ x:α,cs=Enc.enc x)
  (hval:Value.okWide Tryz.prog W r b0 t v) (hd:DataW.Trod enc Tryz.prog W base sp held t v d ps):∃ l:List α,SlAt (roW W) v l:=by
 obtain⟨fuel,hf⟩:=hd
 obtain⟨a,len,cap,rfl⟩:=okWide_slice ht hval
 obtain⟨v,hv,l,hl⟩:=ZlR ht hc hpos hel hf
 have:Value.slice a len cap=v:=by simpa[Value.cells]using hv
 exact⟨l,this ▸ hl⟩
theorem Wa2 (hval:Value.okWide Tryz.prog W r b0 72 v)(hd:DataW.Trod enc Tryz.prog W base sp held 72 v d ps):∃ l:List U16,SlAt (roW W) v l:=
 open_sl under72 cells168 (by decide) u16_trod hval hd
theorem Wa1 (hval:Value.okWide Tryz.prog W r b0 5 v)(hd:DataW.Trod enc Tryz.prog W base sp held 5 v d ps):∃ n,v=.int .u8 n∧0<=n∧n<256:=by
 obtain⟨n,rfl,_,_,hw⟩:=open_int Tryz.underlying5 hval hd
 simp only[Lit.wf,Bool.and_eq_true,decide_eq_true_eq]at hw
 have h1:IntKind.u8.min=0:=rfl
 have h2:IntKind.u8.max=255:=rfl
 exact⟨n,rfl,by omega,by omega⟩
end
end Go.Proofs
end
section
open Go Go.LL Go.Conc Go.ConcM
namespace Go.Proofs.YtamdhefhhdgjbaaGreatDoor
theorem War:Tryz.pinned.checked.prog.funcNamed Rows.spileOpenedRow.func=some 13:=by kernel_rfl
theorem Waq:joinedFacts Tryz.pinned.checked.prog 13 Tryz.f13 Rows.spileOpenedSpec Rows.spileOpenedRow=true:=by kernel_rfl
theorem Wap:Tryz.f13.isInstance Tryz.pinned.checked.prog Rows.spileOpenedRow.origin Rows.spileOpenedRow.targs:=of_decide_eq_true (by kernel_rfl)
theorem Wao:Tryz.f13.isWrapper Tryz.pinned.checked.prog Rows.spileOpenedRow.wrapper Rows.spileOpenedRow.mainSum:=by unfold Func.isWrapper;first | (rw[if_pos (by decide +kernel)];kernel_rfl) | (rw[if_neg (by decide +kernel)];exact⟨rfl,rfl⟩)
end Go.Proofs.YtamdhefhhdgjbaaGreatDoor
end
section
open Go Go.LL
namespace Go.Proofs
theorem WaG {b:Bk}{i:Nat}{n:Int}:n∈Wah b i↔(ptAt b i).ml<=n∧n<=(ptAt b i).mh:=by
 rw[Wah,List.mem_map]
 constructor
 ·rintro⟨t,ht,rfl⟩
  rw[List.mem_range]at ht
  omega
 ·rintro⟨h1,h2⟩
  exact⟨(n-(ptAt b i).ml).toNat,by rw[List.mem_range];omega,by omega⟩
theorem getD_app {l:List Int}{n:Int}{j:Nat}:(l++[n]).getD j 0=if j<l.length then l.getD j 0 else if j=l.length then n else 0:=by
 simp only[List.getD_eq_getElem?_getD]
 by_cases h:j<l.length
 ·rw[if_pos h,List.getElem?_append_left h]
 ·rw[if_neg h,List.getElem?_append_right (by omega)]
  by_cases h2:j=l.length
  ·subst h2;simp
  ·rw[if_neg h2,List.getElem?_eq_none (by simp;omega)];rfl
theorem Wbe {l:List Int}{i j:Nat}(h:j<i):(l.take i).getD j 0=l.getD j 0:=by
 simp only[List.getD_eq_getElem?_getD,List.getElem?_take_of_lt h]
theorem WaK {b:Bk}:∀ {i:Nat} {l:List Int},l∈mkL b i↔l.length=i∧∀ j,j<i->(ptAt b j).ml<=l.getD j 0∧l.getD j 0<=(ptAt b j).mh
 | 0,l=>by
  rw[mkL,List.mem_singleton]
  constructor
  ·rintro rfl;exact⟨rfl,fun j h=>by omega⟩
  ·rintro⟨h,_⟩;exact List.length_eq_zero_iff.1 h
 | i+1,l=>by
  rw[mkL,List.mem_flatMap]
  constructor
  ·rintro⟨m,hm,hl⟩
   obtain⟨n,hn,rfl⟩:=List.mem_map.1 hl
   obtain⟨h1,h2⟩:=WaK.1 hm
   refine⟨by simp[h1],fun j hj=>?_⟩
   rw[getD_app]
   by_cases e:j<i
   ·rw[if_pos (by omega)];exact h2 j e
   ·rw[if_neg (by omega),if_pos (by omega)]
    obtain rfl:j=i:=by omega
    exact WaG.1 hn
  ·rintro⟨h1,h2⟩
   refine⟨l.take i,WaK.2 ⟨by rw[List.length_take];omega,fun j hj=>?_⟩,List.mem_map.2 ⟨l.getD i 0,WaG.2 (h2 i (by omega)),?_⟩⟩
   ·rw[Wbe hj];exact h2 j (by omega)
   ·have:=Zi7 (l:=l) (n:=i) (by omega)
    rw[<-h1,List.take_length]at this
    exact this.symm
theorem WaL {bf:Int}{sl:Nat}{k:Slip}:∀ {r:Nat},k∈innerR bf sl r↔k.bf=bf∧(sl:Int)-r<k.by_∧k.by_<=sl∧k.by_≠0
 | 0=>by rw[innerR];simp;omega
 | r+1=>by
  have ih:=@WaL bf sl k r
  rw[innerR]
  split
  ·rw[ih];constructor
   ·rintro⟨h1,h2,h3,h4⟩;exact⟨h1,by omega,h3,h4⟩
   ·rintro⟨h1,h2,h3,h4⟩;exact⟨h1,by omega,h3,h4⟩
  ·rw[List.mem_cons,ih]
   obtain⟨kf,ky⟩:=k
   simp only[Slip.mk.injEq]
   omega
theorem WaH {n sl:Nat}{k:Slip}:∀ {r:Nat},r+1<=n->(k∈outerR n sl r↔((n:Int)-r<=k.bf∧k.bf<n)∧-(sl:Int)<=k.by_∧k.by_<=sl∧k.by_≠0)
 | 0,_=>by rw[outerR];simp;omega
 | r+1,h=>by
  rw[outerR,List.mem_append,WaL,WaH (by omega)]
  omega
theorem Wa4 {b:Bk}(v:Zeo b){k:Slip}:k∈ZaC b↔k=⟨0,0⟩∨((1<=k.bf∧k.bf<b.pts.length)∧-b.sl<=k.by_∧k.by_<=b.sl∧k.by_≠0):=by
 have:=v.sl
 have:=v.n
 rw[ZaC,List.mem_cons,WaH (by omega)]
 have e:((b.sl.toNat:Nat):Int)=b.sl:=by omega
 have e2:((b.pts.length-1:Nat):Int)=b.pts.length-1:=by omega
 rw[e,e2]
 refine or_congr Iff.rfl ?_
 omega
def Wa0 (b:Bk):List Boat:=(mkL b b.pts.length).flatMap fun l=>(ZaC b).map fun k=>(⟨n4of l,k.bf,k.by_⟩:Boat)
theorem Wan {α β:Type}(l:List α)(f:α->List β)(p:β->Bool):(l.flatMap f).filter p=l.flatMap fun a=>(f a).filter p:=by
 induction l with
 | nil=>rfl
 | cons a l ih=>simp[List.flatMap_cons,ih]
theorem Waw {b:Bk}(v:Zeo b):Zae b=(Wa0 b).filter (ZgQ b):=by
 rw[boats_mk v,Wa0,Wan]
 rfl
end Go.Proofs
end
section
open Go Go.LL
namespace Go.Proofs
section
variable  {P:Prg}[Tz P][Loud P]{H:Hp}
set_option maxHeartbeats 4000000
set_option maxRecDepth 20000
end
end Go.Proofs
end
section
open Go Go.LL
namespace Go.Proofs
end Go.Proofs
end
section
open Go Go.LL
namespace Go.Proofs
theorem ckS_of {n:Nat}:∀ {l:List SCk},(∀ c∈l,(0<=c.p∧c.p<n)∧(-199<=c.gl∧c.gl<=c.gh∧c.gh<=199))->ckS n l=0
 | [],_=>rfl
 | c :: l,h=>by
  have h1:=h c (List.mem_cons_self ..)
  rw[ckS,if_neg (by omega),if_neg (by omega)]
  exact ckS_of fun d hd=>h d (List.mem_cons_of_mem _ hd)
theorem WaM {b:Bk}(v:Zeo b):snag b=0:=by
 have h1:Zbj b=0:=by rw[Zbj,if_pos ⟨v.op,v.sl⟩]
 have h2:Zbk b=0:=by
  rw[Zbk,if_neg (by have:=v.n;omega),if_pos]
  rw[List.all_eq_true]
  intro p hp
  obtain⟨i,hi,rfl⟩:=List.mem_iff_getElem.1 hp
  obtain⟨a1,a2,a3,a4⟩:=v.pts i hi
  simp only[okP,Bool.and_eq_true,decide_eq_true_eq]
  exact⟨⟨⟨a1,a2⟩,a3⟩,a4⟩
 have h3:ckS b.pts.length b.cks=0:=ckS_of v.cks
 rw[snag,if_neg (by simp[h1]),if_neg (by simp[h2]),ZbJ,if_neg (by have:=v.ckn;omega),h3]
theorem open_eq {b:Bk}(v:Zeo b):Zah b true=if 0<(Zae b).length then 0 else 9:=by
 rw[Zah,if_neg (by simp[WaM v]),if_neg (by simp)]
 by_cases h:0<(Zae b).length
 ·rw[if_neg (by omega),if_pos h]
 ·rw[if_pos (by omega),if_neg h]
theorem there_eq {b:Bk}{i:Nat}(h:i<b.pts.length):decide (0<=(i:Int)∧(i:Int)<b.pts.length)=true:=decide_eq_true ⟨by omega,by omega⟩
theorem gapL_mem {b:Bk}{p:Nat}{z:Int}:z∈gapL b p↔∃ x∈Zae b,(Zas b x).get p=z:=by
 rw[gap_eq rfl,(WaQ _).2,List.mem_map]
end Go.Proofs
end
section
open Go Go.LL
namespace Go.Proofs
end Go.Proofs
end
section
open Go Go.LL
namespace Go.Proofs
structure Wider (b o:Bk):Prop where
 op:o.op=b.op
 sl:o.sl=b.sl
 cks:o.cks=b.cks
 n:o.pts.length=b.pts.length
 ml:∀ i,i<b.pts.length->(ptAt o i).ml=(ptAt b i).ml∧(ptAt o i).mh=(ptAt b i).mh
 w:∀ i,i<b.pts.length->(ptAt o i).w=(ptAt b i).w
 b:∀ i,i<b.pts.length->(ptAt o i).bl<=(ptAt b i).bl∧(ptAt b i).bh<=(ptAt o i).bh
end Go.Proofs
end
section
open Go Go.LL
namespace Go.Proofs
structure Learn (b o:Bk):Prop where
 op:o.op=b.op
 n:o.pts.length=b.pts.length
 bd:∀ i,i<b.pts.length->(ptAt o i).bl=(ptAt b i).bl∧(ptAt o i).bh=(ptAt b i).bh∧(ptAt o i).w=(ptAt b i).w
 sub:∀ x∈Zae o,x∈Zae b
theorem low_same {b o:Bk}(hn:o.pts.length=b.pts.length)(h:∀ i,i<b.pts.length->(ptAt o i).bl=(ptAt b i).bl∧(ptAt o i).bh=(ptAt b i).bh∧(ptAt o i).w=(ptAt b i).w)(g:N4):lowF o g=lowF b g∧Zfc o g=Zfc b g:=by
 have e1:ZgC o g=ZgC b g:=by
  rw[ZgC,ZgC,hn]
  exact List.map_congr_left fun i hi=>by
   have:=(h i (List.mem_range.1 hi)).1
   rw[ptAt,ptAt]at this
   rw[this]
 have e2:ZdK o g=ZdK b g:=by
  rw[ZdK,ZdK,hn]
  exact List.map_congr_left fun i hi=>by
   obtain⟨_,h2,h3⟩:=h i (List.mem_range.1 hi)
   rw[ptAt,ptAt]at h2 h3
   rw[h2,h3]
 rw[lowF,lowF,Zfc,Zfc,e1,e2]
 exact⟨rfl,rfl⟩
theorem Learn.pos {b o:Bk}(h:Learn b o)(h0:0<(Zae o).length):0<(Zae b).length:=by
 obtain⟨x,hx⟩:=List.exists_mem_of_length_pos h0
 exact List.length_pos_of_mem (h.sub x hx)
end Go.Proofs
end
section
open Go Go.LL
namespace Go.Proofs
def updP (b:Bk)(f:Nat->SPt)(j:Nat):List SPt:=(List.range b.pts.length).map fun i=>if i<j then f i else ptAt b i
def ptsB (b:Bk)(f:Nat->SPt):Bk:={ b with pts:=updP b f b.pts.length }
theorem Wad (b:Bk)(f:Nat->SPt)(j:Nat):(updP b f j).length=b.pts.length:=by simp[updP]
theorem upd_zero (b:Bk)(f:Nat->SPt):updP b f 0=b.pts:=by
 refine List.ext_getElem (Wad b f 0) fun i h1 h2=>?_
 simp only[updP,List.getElem_map,List.getElem_range]
 rw[if_neg (by omega)]
 exact Zbd h2 _
theorem Wax (b:Bk)(f:Nat->SPt){i j:Nat}(h:i<(updP b f j).length):(updP b f j)[i]=if i<j then f i else ptAt b i:=by
 simp only[updP,List.getElem_map,List.getElem_range]
theorem upd_set (b:Bk)(f:Nat->SPt){j:Nat}:(updP b f j).set j (f j)=updP b f (j+1):=by
 refine List.ext_getElem (by rw[List.length_set,Wad,Wad]) fun i h1 h2=>?_
 rw[List.getElem_set,Wax,Wax]
 by_cases e:j=i
 ·subst e;rw[if_pos rfl,if_pos (by omega)]
 ·rw[if_neg e]
  by_cases h:i<j
  ·rw[if_pos h,if_pos (by omega)]
  ·rw[if_neg h,if_neg (by omega)]
theorem ptsB_pt {b:Bk}{f:Nat->SPt}{i:Nat}(hi:i<b.pts.length):ptAt (ptsB b f) i=f i:=by
 have h:i<(updP b f b.pts.length).length:=by rw[Wad];exact hi
 show (updP b f b.pts.length).getD i _=_
 rw[Zbd h,Wax,if_pos hi]
def opF (b:Bk)(n:Int)(i:Nat):SPt:={ ptAt b i with ml:=(ptAt b i).ml+n,mh:=(ptAt b i).mh+n }
def opB (b:Bk)(n:Int):Bk:={ ptsB b (opF b n) with op:=b.op+n }
theorem Wai (b:Bk)(n:Int):(opB b n).pts.length=b.pts.length:=Wad b _ _
theorem Wbb {b:Bk}{n:Int}{i:Nat}(hi:i<b.pts.length):ptAt (opB b n) i=opF b n i:=ptsB_pt (f:=opF b n) hi
theorem op_span {b:Bk}{n:Int}{i:Nat}(hi:i<b.pts.length):Wah (opB b n) i=(Wah b i).map (·+n):=by
 rw[Wah,Wbb hi,Wah,List.map_map]
 show (List.range ((ptAt b i).mh+n-((ptAt b i).ml+n)+1).toNat).map _=_
 have:(ptAt b i).mh+n-((ptAt b i).ml+n)+1=(ptAt b i).mh-(ptAt b i).ml+1:=by omega
 rw[this]
 refine List.map_congr_left fun t _=>?_
 show (ptAt b i).ml+n+(t:Int)=(ptAt b i).ml+(t:Int)+n
 omega
theorem op_mk {b:Bk}{n:Int}:∀ {i:Nat},i<=b.pts.length->mkL (opB b n) i=(mkL b i).map (List.map (·+n))
 | 0,_=>rfl
 | i+1,hi=>by
  rw[mkL,mkL,op_mk (by omega),op_span (by omega),Waa,List.map_flatMap]
  refine Wab fun l _=>?_
  rw[List.map_map,List.map_map]
  refine List.map_congr_left fun z _=>?_
  show l.map (·+n)++[z+n]=(l++[z]).map (·+n)
  rw[List.map_append];rfl
def shB (n:Int)(k:Nat)(x:Boat):Boat:={ x with m:=N4.of fun j=>if j<k then x.m.get j+n else x.m.get j }
theorem sh_n4 {l:List Int}{n:Int}:n4of (l.map (·+n))=N4.of fun j=>if j<l.length then (n4of l).get j+n else (n4of l).get j:=by
 refine N4.ext' fun j hj=>?_
 rw[Wal hj,N4.of_get _ hj,Wal hj]
 simp only[List.getD_eq_getElem?_getD,List.getElem?_map]
 by_cases h:j<l.length
 ·rw[if_pos h,List.getElem?_eq_getElem h];rfl
 ·rw[if_neg h,List.getElem?_eq_none (by omega)];rfl
theorem WaR (b:Bk)(n:Int):ZaC (opB b n)=ZaC b:=by rw[ZaC,ZaC,Wai];rfl
theorem op_cand (b:Bk)(n:Int):Wa0 (opB b n)=(Wa0 b).map (shB n b.pts.length):=by
 rw[Wa0,Wa0,Wai,op_mk (Nat.le_refl _),Waa,List.map_flatMap,WaR]
 refine Wab fun l hl=>?_
 rw[List.map_map]
 refine List.map_congr_left fun k _=>?_
 show (⟨n4of (l.map (·+n)),k.bf,k.by_⟩:Boat)=⟨N4.of fun j=>if j<b.pts.length then (n4of l).get j+n else (n4of l).get j,k.bf,k.by_⟩
 rw[sh_n4,(WaK.1 hl).1]
theorem Waz (b:Bk)(n:Int)(x:Boat):Zas (opB b n) (shB n b.pts.length x)=Zas b x:=by
 refine N4.ext' fun j hj=>?_
 rw[Zas,Zas,N4.of_get _ hj,N4.of_get _ hj,Wai]
 by_cases h:j<b.pts.length
 ·rw[if_pos h,if_pos h,Zk9,Zk9]
  have:(shB n b.pts.length x).m.get j=x.m.get j+n:=by
   show (N4.of _).get j=_
   rw[N4.of_get _ hj,if_pos h]
  rw[this]
  show b.op+n-(x.m.get j+n)+_=b.op-x.m.get j+_
  show b.op+n-(x.m.get j+n)+(if x.bf<=(j:Int) then x.by_ else 0)=b.op-x.m.get j+(if x.bf<=(j:Int) then x.by_ else 0)
  omega
 ·rw[if_neg h,if_neg h]
theorem WaA {b:Bk}{n:Int}(v:Zeo b)(v':Zeo (opB b n)):Zae (opB b n)=(Zae b).map (shB n b.pts.length):=by
 rw[Waw v',Waw v,op_cand,List.filter_map]
 congr 1
 refine List.filter_congr fun x _=>?_
 show ZgQ (opB b n) (shB n b.pts.length x)=ZgQ b x
 rw[ZgQ,ZgQ,Waz];rfl
theorem Wba {b:Bk}{n:Int}{α:Type}(v:Zeo b)(v':Zeo (opB b n))(f:N4->α):(Zae (opB b n)).map (fun x=>f (Zas (opB b n) x))=(Zae b).map fun x=>f (Zas b x):=by
 rw[WaA v v',List.map_map]
 refine List.map_congr_left fun x _=>?_
 show f (Zas (opB b n) (shB n b.pts.length x))=_
 rw[Waz]
theorem op_len {b:Bk}{n:Int}(v:Zeo b)(v':Zeo (opB b n)):(Zae (opB b n)).length=(Zae b).length:=by rw[WaA v v',List.length_map]
theorem op_gapL {b:Bk}{n:Int}(v:Zeo b)(v':Zeo (opB b n))(i:Nat):gapL (opB b n) i=gapL b i:=by
 rw[gapL,gapL,Wba v v' fun g=>g.get i]
theorem WaS (b:Bk)(n:Int)(g:N4):lowF (opB b n) g=lowF b g∧Zfc (opB b n) g=Zfc b g:=low_same (Wai b n) (fun i hi=>by rw[Wbb hi];exact⟨rfl,rfl,rfl⟩) g
theorem Wa9 {b:Bk}{n:Int}(v:Zeo b)(v':Zeo (opB b n)):sLow (opB b n)=sLow b∧sHigh (opB b n)=sHigh b:=by
 have e1:Zgv (opB b n)=Zgv b:=by
  rw[Zgv,Wba v v' fun g=>lowF (opB b n) g,Zgv]
  exact List.map_congr_left fun x _=>(WaS b n _).1
 have e2:ZdH (opB b n)=ZdH b:=by
  rw[ZdH,Wba v v' fun g=>Zfc (opB b n) g,ZdH]
  exact List.map_congr_left fun x _=>(WaS b n _).2
 rw[sLow,sLow,sHigh,sHigh,e1,e2]
 exact⟨rfl,rfl⟩
theorem op_fits {b:Bk}{n:Int}(v:Zeo b)(v':Zeo (opB b n)):((Zae (opB b n)).filter (ZgD (opB b n))).length=((Zae b).filter (ZgD b)).length:=by
 rw[WaA v v',List.filter_map,List.length_map]
 congr 1
 refine List.filter_congr fun x _=>?_
 show ZgD (opB b n) (shB n b.pts.length x)=ZgD b x
 rw[ZgD,ZgD,Waz,(WaS b n _).1,(WaS b n _).2]
end Go.Proofs
end
section
open Go Go.LL
namespace Go.Proofs
end Go.Proofs
end
section
open Go Go.LL
namespace Go.Proofs
theorem el_eq {l:List Int}{i:Nat}(h:i<l.length):l.getD i 0=l[i]:=Zbd h _
section
variable  {P:Prg}[Tz P][Loud P]{H:Hp}
set_option maxHeartbeats 4000000
set_option maxRecDepth 20000
end
end Go.Proofs
end
