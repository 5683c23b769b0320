/- proofs about Leango given: part Br0; made by a program out of the longer texts in wip -/
import Derived.Test.YtamdhefhhdgjbaaGreatDoorP44
set_option linter.all false
section
namespace Go.LL
section
variable  {P:Prg}{d:Option Nat}{r:List NI}{op:NOp}{Q:NSt->Hp->Prop}{next:NSt->Hp->Prop}{σ:NSt}{H:Hp}{x y z:Operand}{v:Value}
variable  {l:List (NI×Option Bool)}
variable  {Qe:Ex->NSt->Hp->Prop}{a b c:Zai}
end
section
variable  {P:Prg}{σ:NSt}{H:Hp}{Qe:Ex->NSt->Hp->Prop}{b:Zai}
theorem for_next {n j:Nat}{I:Nat->Hp->Prop}{env:Nat->List (Nat×Value)}{box:Nat->List (Nat×List Value)}{σ':NSt}{ds:List Deferred}(hj:j<n)(hI:I (j+1) H)(he:LeE (env (j+1)) σ')(hb:LeB (box (j+1)) σ')(hd:σ'.defs=ds) :
  ∃ j':{ j:Nat // j<=n },n-j'.1<n-j∧I j'.1 H∧LeE (env j'.1) σ'∧LeB (box j'.1) σ'∧σ'.defs=ds:=⟨⟨j+1,hj⟩,by show n-(j+1)<n-j;omega,hI,he,hb,hd⟩
end
end Go.LL
end
section
namespace Go.LL
section
variable  {P:Prg}{d:Option Nat}{next:NSt->Hp->Prop}{σ:NSt}{H:Hp}{x y z:Operand}{v:Value}{ty:TypeId}
theorem om_rem {k:IntKind}{m n:Int}{t t2:TypeId}(e1:σ.get x=some (.int k m))(e2:σ.get y=some (.int k n))(hn:n≠0)(h:next (σ.set d (.int k (m.tmod n))) H):(NOp.pur (.binOp .rem t x y t2) ty).m P d next σ H:=by
 refine Zcb (by simp[Op.operands,e1,e2]) ?_ h
 have:execOp (fun x=>(σ.get x).getD undef) (bare (.binOp .rem t x y t2) ty)=pure (.value (.int k (m.tmod n))):=by simp[execOp,bare,e1,e2,eqGuard,binOp,Op.intDiv,hn]
 rw[this]
 exact fun Q g H hq=>hq
end
end Go.LL
end
section
open Go Go.LL Go.Z
namespace Go.Proofs
def n63:Zai:=(sq [o 2 (.lbox 2 [2,10] (t 0)),o 4 (.lzero 4 [4] [z0,z0,s0,s0])] (sq [l 8 2 4 2,o 5 (.lzero 5 [5,13,15,21,27] [z0,z0,s0,s0]),ls 5 4 5 8] (sq [o 9 (.raw (.buildSlice 22 0 #[]) 22),f 10 2 2,ln 11 2 10,o 12 (.raw (.call (.mk (.builtin .append) #[(t 9),(t 11)] #[22,22])) 22),f 13 2 5,ls 5 1 13 12] (.seq (sq [mi 6 0] (.block 0 (.loop (.seq (sq [m 14 6,f 15 2 5,ln 16 5 15,le 17 16,b 18 .lss 14 17] (.cond (t 18) .skip (.exit 0))) (.seq (.block 1 (sq [f 21 2 5,ln 22 5 21,m 23 6,ia 24 5 22 23,o 25 (.fadr 2 (t 24)),lm 26 2 25,o 7 (.lzero 7 [7,30,38] [z0,z0]),ls 7 2 7 26] (.drawn [(f 27 2 5,none),(ln 28 5 27,none),(m 29 6,none),(f 30 0 7,none),(ln 31 7 30,none),(m 32 1,none),(m 33 6,none),(f 38 1 7,none),(ln 39 7 38,none),(m 40 1,none),(m 41 6,none),(c2 34 58 32 33,(some false)),(o 35 (.pur (.binOp .rem 3 (t 34) (k 5) 3) 3),none),(b 36 .sub 31 35,none),(o 37 (.pur (.call (.mk (.builtin .max) #[(k 0),(t 36)] #[3,3])) 3),none),(c2 42 58 40 41,(some false)),(o 43 (.pur (.binOp .quo 3 (t 42) (k 5) 3) 3),none),(o 44 (.pur (.binOp .rem 3 (t 43) (k 5) 3) 3),none),(b 45 .add 39 44,none),(o 46 (.pur (.call (.mk (.builtin .min) #[(k 199),(t 45)] #[3,3])) 3),none),(c2 47 62 37 46,(some false)),(ia 48 5 28 29,none),(o 49 (.fadr 2 (t 48)),none),(st 49 49 47 0,none)]))) (.ops [m 19 6,bk 20 .add 19 1,m 6 20])))))) (sq [l 50 5 4 5,ls 4 4 4 50] .ret)))))
def r63:List NRes:=[(.var 4 4 (some 4))]
theorem c63:IsN Tryz.prog 63 2 n63 r63:=isq [(2,2),(4,4),(5,5),(7,7),(10,2),(13,5),(15,5),(21,5),(27,5),(30,7),(38,7)] Tryz.func63
end Go.Proofs
end
section
open Go Go.LL
namespace Go.Proofs
theorem ui4:Tryz.prog.underlying 4=some .bool:=by kernel_rfl
section
variable  {P:Prg}[Tz P]{H:Hp}{g:Bool}{d:Nat}
end
end Go.Proofs
end
section
open Go Go.LL
namespace Go.Proofs
section
variable  {P:Prg}[Tz P]{H:Hp}{d:Option Nat}{next:NSt->Hp->Prop}{σ:NSt}{x y:Operand}{ty t2:TypeId}{v:Value}
theorem eq4_w' {a b:Bool}(d:Nat)(Q:Bool->Bool->Hp->Prop)(g:Bool)(H:Hp)(hq:Q (a == b) g H):wpL P.toPQ (Op.equalIn (d+1) 4 (vb a) (vb b)) Q g H:=by
 simp only[Op.equalIn,Zaa,Zad (und (P:=P) ui4),Zac]
 exact hq
theorem eq4_w {a b:Bool}(Q:Bool->Bool->Hp->Prop)(g:Bool)(H:Hp)(hq:Q (a == b) g H):wpL P.toPQ (Op.equalIn (9999+1) 4 (vb a) (vb b)) Q g H:=eq4_w' 9999 Q g H hq
theorem om_eqb {a b:Bool}(e1:σ.get x=some (vb a))(e2:σ.get y=some (vb b))(h:next (σ.set d (vb (a == b))) H):(NOp.pur (.binOp .eql 4 x y t2) ty).m P d next σ H:=by
 refine Zcb (by simp[Op.operands,e1,e2]) ?_ h
 have:execOp (fun x=>(σ.get x).getD undef) (bare (.binOp .eql 4 x y t2) ty)=(do let v <-(do eqGuard .eql 4 x y (vb a) (vb b);binOp .eql 4 (vb a) (vb b));pure (.value v)):=by simp[execOp,bare,e1,e2]
 rw[this]
 refine Zgz fun Q g H hq=>?_
 simp only[eqGuard,Zaa,Zac]
 exact Zaa.2 (eq4_w _ _ _ hq)
theorem om_neb {a b:Bool}(e1:σ.get x=some (vb a))(e2:σ.get y=some (vb b))(h:next (σ.set d (vb (a != b))) H):(NOp.pur (.binOp .neq 4 x y t2) ty).m P d next σ H:=by
 refine Zcb (by simp[Op.operands,e1,e2]) ?_ h
 have:execOp (fun x=>(σ.get x).getD undef) (bare (.binOp .neq 4 x y t2) ty)=(do let v <-(do eqGuard .neq 4 x y (vb a) (vb b);binOp .neq 4 (vb a) (vb b));pure (.value v)):=by simp[execOp,bare,e1,e2]
 rw[this]
 refine Zgz fun Q g H hq=>?_
 simp only[eqGuard,Zaa,Zac]
 exact Zaa.2 (eq4_w _ _ _ hq)
end
end Go.Proofs
end
section
open Go Go.LL Go.Z
namespace Go.Proofs
def n9:Zai:=(sq [o 2 (.lbox 2 [2] (t 0)),m0 4] (.seq (sq [l 26 2 4 2,c1 27 48 26,o 28 (.not (t 27))] (.cond (t 28) (sq [c0 29 18,m 4 29] .ret) .skip)) (sq [l 30 2 4 2,m 31 1,c2 32 63 30 31,o 5 (.lzero 5 [5] [z0,z0,s0,s0]),ls 5 4 5 32] (sq [l 34 2 4 2,c1 35 31 34,m 33 35,x 36 33 0,x 37 33 1,m 6 36,m 7 37] (sq [l 39 5 4 5,c1 40 31 39,m 38 40,x 41 38 0,x 42 38 1,m 8 41,m 9 42] (sq [l 44 2 4 2,c1 45 33 44,m 43 45,x 46 43 0,x 47 43 1,x 48 43 2,m 10 46,m 11 47,m 12 48] (sq [l 50 5 4 5,c1 51 33 50,m 49 51,x 52 49 0,x 53 49 1,x 54 49 2,m 13 52,m 14 53,m 15 54] (sq [l 56 2 4 2,c1 57 35 56,m 55 57,x 58 55 0,x 59 55 1,x 60 55 2,m 16 58,m 17 59,m 18 60] (sq [l 62 5 4 5,c1 63 35 62,m 61 63,x 64 61 0,x 65 61 1,x 66 61 2,m 19 64,m 20 65,m 21 66] (sq [l 68 2 4 2,c1 69 19 68,m 67 69,x 70 67 0,x 71 67 1,m 22 70,m 23 71] (sq [l 73 5 4 5,c1 74 19 73,m 72 74,x 75 72 0,x 76 72 1,m 24 75,m 25 76] (.seq (sq [m 77 23,bk 78 .neq 77 0,m 79 78,mf 79 80 25,gf 79 81 (.bin .neq (t 80) (k 0)),po 82 79 81,m 83 82,mf 83 84 22,mf 83 85 24,gf 83 86 (.bin .neq (t 84) (t 85)),po 87 83 86,m 88 87,mf 88 89 7,mf 88 90 9,gf 88 91 (.bin .neq (t 89) (t 90)),po 92 88 91,m 93 92,mf 93 94 9,mf 93 95 12,gf 93 96 (.bin .neq (t 94) (t 95)),po 97 93 96,m 98 97,mf 98 99 12,mf 98 100 15,gf 98 101 (.bin .neq (t 99) (t 100)),po 102 98 101,m 103 102,mf 103 104 15,mf 103 105 18,gf 103 106 (.bin .neq (t 104) (t 105)),po 107 103 106,m 108 107,mf 108 109 18,mf 108 110 21,gf 108 111 (.bin .neq (t 109) (t 110)),po 112 108 111,m 113 112,mf 113 114 7,gf 113 115 (.bin .eql (t 114) (k 0)),mf 113 116 22,gf 113 117 (.bin .gtr (t 116) (k 0)),gf 113 118 (.pur (.binOp .neq 4 (t 115) (t 117) 4) 4),po 119 113 118] (.cond (t 119) (sq [m0 4] .ret) .skip)) (.seq (sq [m 120 7,bk 121 .neq 120 0] (.cond (t 121) (sq [m 122 7,bk 123 .eql 122 9,m 124 123,gt 124 125 (.call 18 []),pa 126 124 125,m 4 126] .ret) .skip)) (.seq (sq [m 127 6,bk 128 .eql 127 1,m 129 128,mt 129 130 8,gt 129 131 (.bin .neq (t 130) (k 1)),pa 132 129 131,m 133 132,mf 133 134 6,gf 133 135 (.bin .neq (t 134) (k 2)),mf 133 136 135,mt 136 137 8,gt 136 138 (.bin .eql (t 137) (k 2)),gf 133 139 (.pick (t 136) (t 138) k0),po 140 133 139,m 141 140,mf 141 142 11,mf 141 143 142,mt 143 144 14,gt 143 145 (.not (t 144)),mt 143 146 145,mf 146 147 13,mf 146 148 10,gf 146 149 (.bin .gtr (t 147) (t 148)),gt 143 150 (.pick (t 146) k1 (t 149)),gf 141 151 (.pick (t 143) (t 150) k0),po 152 141 151,m 153 152,mf 153 154 17,mf 153 155 20,gf 153 156 (.bin .gtr (t 154) (t 155)),po 157 153 156,m 158 157,mf 158 159 20,mf 158 160 22,gf 158 161 (.bin .gtr (t 159) (t 160)),po 162 158 161] (.cond (t 162) (sq [m0 4] .ret) .skip)) (sq [m 163 11,o 164 (.not (t 163)),m 165 164,mf 165 166 17,mf 165 167 22,gf 165 168 (.bin .eql (t 166) (t 167)),mf 165 169 168,mt 169 170 16,mt 169 171 10,gt 169 172 (.bin .eql (t 170) (t 171)),gf 165 173 (.pick (t 169) (t 172) k0),mf 165 174 173,mt 174 175 6,gt 174 176 (.bin .eql (t 175) (k 1)),gf 165 177 (.pick (t 174) (t 176) k0),po 178 165 177,m 179 178,mt 179 180 11,mt 179 181 180,mf 181 182 17,mf 181 183 22,gf 181 184 (.bin .lss (t 182) (t 183)),gt 179 185 (.pick (t 181) k1 (t 184)),pa 186 179 185,m 187 186,mt 187 188 17,gt 187 189 (.bin .eql (t 188) (k 0)),mt 187 190 6,gt 187 191 (.bin .eql (t 190) (k 2)),gt 187 192 (.pur (.binOp .eql 4 (t 189) (t 191) 4) 4),pa 193 187 192,m 194 193,gt 194 195 (.call 18 []),pa 196 194 195,m 4 196] .ret)))))))))))))))
def r9:List NRes:=[(.slot 4)]
theorem c9:IsN Tryz.prog 9 2 n9 r9:=isq [(2,2),(5,5)] Tryz.func9
end Go.Proofs
end
section
open Go Go.LL
namespace Go.Proofs
def Was (b:Bk)(i:Nat):List Int:=(List.range ((ptAt b i).mh-(ptAt b i).ml+1).toNat).map fun (t:Nat)=>(ptAt b i).ml+t
def mkL (b:Bk):Nat->List (List Int)
 | 0=>[[]]
 | i+1=>(mkL b i).flatMap fun l=>(Was b i).map fun n=>l++[n]
theorem mk_mem {b:Bk}(v:Zeo b):∀ i,i<=b.pts.length->∀ l∈mkL b i,l.length=i∧∀ x∈l,0<=x∧x<=99
 | 0,_,l,hl=>by
  rw[mkL,List.mem_singleton]at hl
  subst hl;simp
 | i+1,hi,l,hl=>by
  rw[mkL,List.mem_flatMap]at hl
  obtain⟨m,hm,hl⟩:=hl
  obtain⟨n,hn,rfl⟩:=List.mem_map.1 hl
  obtain⟨h1,h2⟩:=mk_mem v i (by omega) m hm
  refine⟨by simp[h1],fun x hx=>?_⟩
  rcases List.mem_append.1 hx with hx | hx
  ·exact h2 x hx
  ·rw[List.mem_singleton.1 hx]
   rw[Was,List.mem_map]at hn
   obtain⟨t,ht,rfl⟩:=hn
   rw[List.mem_range]at ht
   rw[show ptAt b i=b.pts[i] from Zbd (by omega) _]at ht ⊢
   have:=v.pts i (by omega)
   omega
section
variable  {P:Prg}[Tz P][Loud P]{H:Hp}
set_option maxHeartbeats 4000000
set_option maxRecDepth 20000
end
end Go.Proofs
end
section
open Go Go.LL
namespace Go.Proofs
def bodyF (b:Bk)(l:List Int)(ks:List Slip):List Boat:=(ks.map fun k=>(⟨n4of l,k.bf,k.by_⟩:Boat)).filter (ZgQ b)
def WaM (hi:Int):Nat->List Int
 | 0=>[]
 | c+1=>(hi-c) :: WaM hi c
theorem WaA (f:Int->List Boat)(hi:Int):∀ c,spanR f hi c=(WaM hi c).flatMap f
 | 0=>rfl
 | c+1=>by rw[spanR,WaM,List.flatMap_cons,WaA f hi c]
theorem WaL {hi:Int}:∀ {c:Nat},(WaM hi c).length=c∧∀ t,t<c->(WaM hi c)[t]? = some (hi-(c-1-t:Nat))
 | 0=>⟨rfl,fun t h=>by omega⟩
 | c+1=>by
  obtain⟨h1,h2⟩:=@WaL hi c
  refine⟨by rw[WaM,List.length_cons,h1],fun t ht=>?_⟩
  rw[WaM]
  cases t with
  | zero=>simp
  | succ t=>rw[List.getElem?_cons_succ,h2 t (by omega)];congr 2;omega
theorem spanL_eq {b:Bk}{i:Nat}:WaM (ptAt b i).mh ((ptAt b i).mh-(ptAt b i).ml+1).toNat=Was b i:=by
 obtain⟨h1,h2⟩:=@WaL (ptAt b i).mh ((ptAt b i).mh-(ptAt b i).ml+1).toNat
 have hl:(Was b i).length=((ptAt b i).mh-(ptAt b i).ml+1).toNat:=by simp[Was]
 refine List.ext_getElem? fun t=>?_
 by_cases ht:t<((ptAt b i).mh-(ptAt b i).ml+1).toNat
 ·rw[h2 t ht,Was,List.getElem?_map,List.getElem?_range ht]
  show some ((ptAt b i).mh-((((ptAt b i).mh-(ptAt b i).ml+1).toNat-1-t:Nat):Int))=some ((ptAt b i).ml+(t:Int))
  congr 1;omega
 ·rw[List.getElem?_eq_none (by omega),List.getElem?_eq_none (by omega)]
def lvN (b:Bk):Nat->List N4
 | 0=>[⟨0,0,0,0⟩]
 | i+1=>(lvN b i).flatMap fun m=>(Was b i).map fun n=>m.put i n
theorem Wal {α β γ:Type}(l:List α)(f:α->List β)(g:β->List γ):(l.flatMap f).flatMap g=l.flatMap fun a=>(f a).flatMap g:=by
 induction l with
 | nil=>rfl
 | cons a l ih=>simp[List.flatMap_cons,List.flatMap_append,ih]
theorem Wae {α β γ:Type}(l:List α)(f:α->β)(g:β->List γ):(l.map f).flatMap g=l.flatMap fun a=>g (f a):=by
 induction l with
 | nil=>rfl
 | cons a l ih=>simp[List.flatMap_cons,ih]
theorem Waz {α β:Type}{l:List α}{f g:α->List β}(h:∀ a∈l,f a=g a):l.flatMap f=l.flatMap g:=by
 induction l with
 | nil=>rfl
 | cons a l ih=>rw[List.flatMap_cons,List.flatMap_cons,h a (List.mem_cons_self ..),ih fun x hx=>h x (List.mem_cons_of_mem _ hx)]
theorem lv_step {b:Bk}{r i:Nat}(h:b.pts.length=i+(r+1)):(lvN b (i+1)).flatMap (boatsFrom b r)=(lvN b i).flatMap (boatsFrom b (r+1)):=by
 rw[lvN,Wal]
 congr 1
 funext m
 rw[Wae,boatsFrom,WaA]
 have e:b.pts.length-(r+1)=i:=by omega
 rw[e,spanL_eq]
theorem lv_all {b:Bk}:∀ (r i:Nat),b.pts.length=i+r->(lvN b i).flatMap (boatsFrom b r)=(lvN b b.pts.length).flatMap (boatsFrom b 0)
 | 0,i,h=>by rw[h,Nat.add_zero]
 | r+1,i,h=>by rw[<-lv_step h];exact lv_all r (i+1) (by omega)
theorem boats_lv (b:Bk):Zae b=(lvN b b.pts.length).flatMap (boatsFrom b 0):=by
 rw[<-lv_all b.pts.length 0 (by omega)]
 simp[lvN,Zae]
theorem WaX {l:List Int}{j:Nat}(hj:j<4):(n4of l).get j=l.getD j 0:=N4.of_get _ hj
theorem lv_mk {b:Bk}(v:Zeo b):∀ i,i<=b.pts.length->lvN b i=(mkL b i).map n4of
 | 0,_=>rfl
 | i+1,hi=>by
  have hi4:i<4:=by have:=v.n;omega
  rw[lvN,lv_mk v i (by omega),mkL,Wae,List.map_flatMap]
  refine Waz fun l hl=>?_
  rw[List.map_map]
  refine List.map_congr_left fun n _=>?_
  obtain⟨h1,_⟩:=mk_mem v i (by omega) l hl
  refine N4.ext' fun j hj=>?_
  rw[N4.put_get _ _ hj,WaX hj]
  show _=(n4of (l++[n])).get j
  rw[WaX hj]
  simp only[List.getD_eq_getElem?_getD]
  by_cases e:j=i
  ·subst e
   rw[if_pos rfl,List.getElem?_append_right (by omega),h1]
   simp
  ·rw[if_neg e]
   by_cases e2:j<i
   ·rw[List.getElem?_append_left (by omega)]
   ·rw[List.getElem?_eq_none (by omega),List.getElem?_eq_none (by rw[List.length_append,List.length_singleton];omega)]
theorem boats_mk {b:Bk}(v:Zeo b):Zae b=(mkL b b.pts.length).flatMap fun l=>bodyF b l (ZaC b):=by
 rw[boats_lv,lv_mk v _ (Nat.le_refl _),Wae]
 rfl
section
variable  {P:Prg}[Tz P][Loud P]{H:Hp}
set_option maxHeartbeats 4000000
set_option maxRecDepth 20000
end
end Go.Proofs
end
section
open Go Go.LL
namespace Go.Proofs
theorem WaQ (l:List U16)(i:Int):0<=Zgj l i∧Zgj l i<65536:=by
 unfold Zgj
 split
 ·exact⟨l[i.toNat].lo,l[i.toNat].hi⟩
 ·omega
section
variable  {P:Prg}[Tz P][Loud P]{H:Hp}
set_option maxHeartbeats 4000000
set_option maxRecDepth 20000
end
end Go.Proofs
end
section
open Go Go.LL Go.Conc Go.ConcM
namespace Go.Proofs
open YtamdhefhhdgjbaaGreatDoor Go.ChangeShapes Go.WideShapes
section
set_option maxRecDepth 100000
variable  {H:Type}{enc:TypeId×Value->H}{W:World}{base:Nat}{sp:Nat->Bool}{held:Bool}{fuel:Nat}{cs:List Value}{y:DataW H×List MemPlace}{r:Reach}{b0:Nat}{v:Value}{d:DataW H}{ps:List MemPlace}
theorem u16_trod (h:DataW.trod enc Tryz.prog W base sp held fuel 168 cs=some y):∃ u:U16,cs=Enc.enc u:=by
 obtain⟨n,rfl,_,hw⟩:=DataW.trod_int Tryz.underlying168 h
 simp only[Lit.wf,Bool.and_eq_true,decide_eq_true_eq]at hw
 have h1:IntKind.u16.min=0:=rfl
 have h2:IntKind.u16.max=65535:=rfl
 exact⟨⟨n,by omega,by omega⟩,rfl⟩
theorem cells168:Tryz.prog.cellsOf 168=1:=by kernel_rfl
theorem under72:Tryz.prog.underlying 72=some (.slice 168):=by kernel_rfl
theorem open_sl {α:Type}[Enc α]{t e:TypeId}(ht:Tryz.prog.underlying t=some (.slice e))(hc:Tryz.prog.cellsOf e=Enc.sz α)(hpos:0<Enc.sz α)
  (hel:∀ {n:Nat} {cs:List Value} {y:DataW H×List MemPlace},DataW.trod enc Tryz.prog W base sp held n e cs=some y->∃ x:α,cs=Enc.enc x)
  (hval:Value.okWide Tryz.prog W r b0 t v) (hd:DataW.Trod enc Tryz.prog W base sp held t v d ps):∃ l:List α,SlAt (roW W) v l:=by
 obtain⟨fuel,hf⟩:=hd
 obtain⟨a,len,cap,rfl⟩:=okWide_slice ht hval
 obtain⟨v,hv,l,hl⟩:=ZlR ht hc hpos hel hf
 have:Value.slice a len cap=v:=by simpa[Value.cells]using hv
 exact⟨l,this ▸ hl⟩
theorem Wa4 (hval:Value.okWide Tryz.prog W r b0 72 v)(hd:DataW.Trod enc Tryz.prog W base sp held 72 v d ps):∃ l:List U16,SlAt (roW W) v l:=
 open_sl under72 cells168 (by decide) u16_trod hval hd
end
end Go.Proofs
end
section
open Go Go.LL Go.Conc Go.ConcM
namespace Go.Proofs.YtamdhefhhdgjbaaGreatDoor
theorem Waq:Tryz.pinned.checked.prog.funcNamed Rows.spileBroaderRow.func=some 9:=by kernel_rfl
theorem Wap:joinedFacts Tryz.pinned.checked.prog 9 Tryz.f9 Rows.spileBroaderSpec Rows.spileBroaderRow=true:=by kernel_rfl
theorem Wao:Tryz.f9.isInstance Tryz.pinned.checked.prog Rows.spileBroaderRow.origin Rows.spileBroaderRow.targs:=of_decide_eq_true (by kernel_rfl)
theorem Wan:Tryz.f9.isWrapper Tryz.pinned.checked.prog Rows.spileBroaderRow.wrapper Rows.spileBroaderRow.mainSum:=by unfold Func.isWrapper;first | (rw[if_pos (by decide +kernel)];kernel_rfl) | (rw[if_neg (by decide +kernel)];exact⟨rfl,rfl⟩)
end Go.Proofs.YtamdhefhhdgjbaaGreatDoor
end
section
open Go Go.LL
namespace Go.Proofs
def Wa2 (b:Bk):List Boat:=(mkL b b.pts.length).flatMap fun l=>(ZaC b).map fun k=>(⟨n4of l,k.bf,k.by_⟩:Boat)
theorem Wax {α β:Type}(l:List α)(f:α->List β)(p:β->Bool):(l.flatMap f).filter p=l.flatMap fun a=>(f a).filter p:=by
 induction l with
 | nil=>rfl
 | cons a l ih=>simp[List.flatMap_cons,ih]
theorem WaC {b:Bk}(v:Zeo b):Zae b=(Wa2 b).filter (ZgQ b):=by
 rw[boats_mk v,Wa2,Wax]
 rfl
end Go.Proofs
end
section
open Go Go.LL
namespace Go.Proofs
section
variable  {P:Prg}[Tz P][Loud P]{H:Hp}
set_option maxHeartbeats 4000000
set_option maxRecDepth 20000
end
end Go.Proofs
end
section
open Go Go.LL
namespace Go.Proofs
theorem WaW:∀ (l:List Int) (f:Int),(Zbq gtB f l=f∨Zbq gtB f l∈l)∧f<=Zbq gtB f l∧∀ x∈l,x<=Zbq gtB f l
 | [],f=>⟨.inl rfl,Int.le_refl _,by simp⟩
 | x :: l,f=>by
  have e:Zbq gtB f (x :: l)=Zbq gtB (if gtB x f then x else f) l:=rfl
  rw[e]
  by_cases hx:gtB x f=true
  ·rw[if_pos hx]
   obtain⟨h1,h2,h3⟩:=WaW l x
   have hx':f<x:=of_decide_eq_true hx
   refine⟨.inr (List.mem_cons.2 h1),by omega,fun y hy=>?_⟩
   rcases List.mem_cons.1 hy with rfl | hy
   ·exact h2
   ·exact h3 y hy
  ·rw[if_neg hx]
   obtain⟨h1,h2,h3⟩:=WaW l f
   have hx':¬ f<x:=fun h=>hx (decide_eq_true h)
   refine⟨h1.imp id (List.mem_cons_of_mem _),h2,fun y hy=>?_⟩
   rcases List.mem_cons.1 hy with rfl | hy
   ·omega
   ·exact h3 y hy
theorem WaV:∀ (l:List Int) (f:Int),(Zbq ltB f l=f∨Zbq ltB f l∈l)∧Zbq ltB f l<=f∧∀ x∈l,Zbq ltB f l<=x
 | [],f=>⟨.inl rfl,Int.le_refl _,by simp⟩
 | x :: l,f=>by
  have e:Zbq ltB f (x :: l)=Zbq ltB (if ltB x f then x else f) l:=rfl
  rw[e]
  by_cases hx:ltB x f=true
  ·rw[if_pos hx]
   obtain⟨h1,h2,h3⟩:=WaV l x
   have hx':x<f:=of_decide_eq_true hx
   refine⟨.inr (List.mem_cons.2 h1),by omega,fun y hy=>?_⟩
   rcases List.mem_cons.1 hy with rfl | hy
   ·exact h2
   ·exact h3 y hy
  ·rw[if_neg hx]
   obtain⟨h1,h2,h3⟩:=WaV l f
   have hx':¬ x<f:=fun h=>hx (decide_eq_true h)
   refine⟨h1.imp id (List.mem_cons_of_mem _),h2,fun y hy=>?_⟩
   rcases List.mem_cons.1 hy with rfl | hy
   ·omega
   ·exact h3 y hy
theorem max_of {L:List Int}(h:L≠[]):Zbq gtB (L.getD 0 0) (L.drop 1)∈L∧∀ x∈L,x<=Zbq gtB (L.getD 0 0) (L.drop 1):=by
 cases L with
 | nil=>exact absurd rfl h
 | cons a l=>
  obtain⟨h1,h2,h3⟩:=WaW l a
  refine⟨List.mem_cons.2 h1,fun y hy=>?_⟩
  rcases List.mem_cons.1 hy with rfl | hy
  ·exact h2
  ·exact h3 y hy
theorem min_of {L:List Int}(h:L≠[]):Zbq ltB (L.getD 0 0) (L.drop 1)∈L∧∀ x∈L,Zbq ltB (L.getD 0 0) (L.drop 1)<=x:=by
 cases L with
 | nil=>exact absurd rfl h
 | cons a l=>
  obtain⟨h1,h2,h3⟩:=WaV l a
  refine⟨List.mem_cons.2 h1,fun y hy=>?_⟩
  rcases List.mem_cons.1 hy with rfl | hy
  ·exact h2
  ·exact h3 y hy
theorem Waw {b:Bk}(g:N4)(h:1<=b.pts.length):(∀ i,i<b.pts.length->(ptAt b i).bl-g.get i<=lowF b g)∧∃ i,i<b.pts.length∧lowF b g=(ptAt b i).bl-g.get i:=by
 have hne:ZgC b g≠[]:=by
  intro e
  have:(ZgC b g).length=b.pts.length:=by simp[ZgC]
  rw[e]at this;simp at this;omega
 obtain⟨h1,h2⟩:=max_of hne
 refine⟨fun i hi=>h2 _ (List.mem_map.2 ⟨i,List.mem_range.2 hi,rfl⟩),?_⟩
 obtain⟨i,hi,e⟩:=List.mem_map.1 h1
 exact⟨i,List.mem_range.1 hi,e.symm⟩
theorem Wak {b:Bk}(g:N4)(h:1<=b.pts.length):(∀ i,i<b.pts.length->Zfc b g<=(ptAt b i).bh-(ptAt b i).w-g.get i)∧∃ i,i<b.pts.length∧Zfc b g=(ptAt b i).bh-(ptAt b i).w-g.get i:=by
 have hne:ZdK b g≠[]:=by
  intro e
  have:(ZdK b g).length=b.pts.length:=by simp[ZdK]
  rw[e]at this;simp at this;omega
 obtain⟨h1,h2⟩:=min_of hne
 refine⟨fun i hi=>h2 _ (List.mem_map.2 ⟨i,List.mem_range.2 hi,rfl⟩),?_⟩
 obtain⟨i,hi,e⟩:=List.mem_map.1 h1
 exact⟨i,List.mem_range.1 hi,e.symm⟩
end Go.Proofs
end
section
open Go Go.LL
namespace Go.Proofs
theorem ckS_of {n:Nat}:∀ {l:List SCk},(∀ c∈l,(0<=c.p∧c.p<n)∧(-199<=c.gl∧c.gl<=c.gh∧c.gh<=199))->ckS n l=0
 | [],_=>rfl
 | c :: l,h=>by
  have h1:=h c (List.mem_cons_self ..)
  rw[ckS,if_neg (by omega),if_neg (by omega)]
  exact ckS_of fun d hd=>h d (List.mem_cons_of_mem _ hd)
theorem Wa8 {b:Bk}(v:Zeo b):snag b=0:=by
 have h1:Zbj b=0:=by rw[Zbj,if_pos ⟨v.op,v.sl⟩]
 have h2:Zbk b=0:=by
  rw[Zbk,if_neg (by have:=v.n;omega),if_pos]
  rw[List.all_eq_true]
  intro p hp
  obtain⟨i,hi,rfl⟩:=List.mem_iff_getElem.1 hp
  obtain⟨a1,a2,a3,a4⟩:=v.pts i hi
  simp only[okP,Bool.and_eq_true,decide_eq_true_eq]
  exact⟨⟨⟨a1,a2⟩,a3⟩,a4⟩
 have h3:ckS b.pts.length b.cks=0:=ckS_of v.cks
 rw[snag,if_neg (by simp[h1]),if_neg (by simp[h2]),ZbJ,if_neg (by have:=v.ckn;omega),h3]
theorem open_eq {b:Bk}(v:Zeo b):Zah b true=if 0<(Zae b).length then 0 else 9:=by
 rw[Zah,if_neg (by simp[Wa8 v]),if_neg (by simp)]
 by_cases h:0<(Zae b).length
 ·rw[if_neg (by omega),if_pos h]
 ·rw[if_pos (by omega),if_neg h]
theorem Wbb {b b':Bk}(h:b.op=b'.op)(h2:b.pts.length=b'.pts.length)(x:Boat):Zas b x=Zas b' x:=by
 simp only[Zas,Zk9,h,h2]
theorem WaP {α:Type}{L:List α}{p:α->Bool}(h:∀ x∈L,p x=true):L.filter p=L:=List.filter_eq_self.2 h
theorem Wad {α:Type}{L:List α}{p q:α->Bool}(h:∀ x∈L,p x=true->q x=true):(L.filter p).length<=(L.filter q).length:=by
 induction L with
 | nil=>exact Nat.le_refl _
 | cons a L ih=>
  have ih:=ih fun x hx=>h x (List.mem_cons_of_mem _ hx)
  have ha:=h a (List.mem_cons_self ..)
  simp only[List.filter_cons]
  cases hp:p a with
  | true=>rw[ha hp];simpa using ih
  | false=>
   cases hq:q a with
   | true=>simp;omega
   | false=>simpa using ih
theorem Wag {α:Type}{L:List α}{p:α->Bool}:(L.filter p).length=L.length↔∀ x∈L,p x=true:=by
 constructor
 ·intro h x hx
  rw[<-List.filter_eq_self.1 (List.filter_sublist.eq_of_length h) x hx]
 ·intro h;rw[WaP h]
theorem Wa0 {b b':Bk}(h:b.op=b'.op)(h2:b.pts.length=b'.pts.length)(h3:b.cks=b'.cks)(x:Boat):ZgQ b x=ZgQ b' x:=by
 rw[ZgQ,ZgQ,Wbb h h2 x,h3]
end Go.Proofs
end
section
open Go Go.LL
namespace Go.Proofs
end Go.Proofs
end
section
open Go Go.LL
namespace Go.Proofs
theorem Wab {b:Bk}{g:N4}{s:Int}:Zcx b g s=true↔lowF b g<=s∧s<=Zfc b g:=by rw[Zcx,decide_eq_true_eq]
theorem span_rg {b:Bk}(v:Zeo b){x:Boat}(hx:x∈Zae b){s:Int}(h:Zcx b (Zas b x) s=true):-597<=s∧s<598:=by
 have hn:=v.n
 obtain⟨h1,h2⟩:=Wab.1 h
 have a1:=(Waw (b:=b) (Zas b x) (by omega)).1 0 (by omega)
 have a2:=(Wak (b:=b) (Zas b x) (by omega)).1 0 (by omega)
 have a3:=gap_in v (Zc2 v x hx) 0 (by omega)
 have e:ptAt b 0=b.pts[0]:=Zbd (by omega) _
 have:=v.pts 0 (by omega)
 rw[e]at a1 a2
 omega
theorem cnt_pos {b:Bk}(v:Zeo b){s:Int}(h:0<cntF b s):-597<=s∧s<598:=by
 obtain⟨x,hx⟩:=List.exists_mem_of_length_pos h
 obtain⟨h1,h2⟩:=List.mem_filter.1 hx
 exact span_rg v h1 h2
theorem Wbd (b:Bk)(s:Int):cntF b s<=(Zae b).length:=List.length_filter_le _ _
theorem Wav {b:Bk}(v:Zeo b){q:Pl}:q∈mostL b↔q.k=cntF b q.s∧0<q.k:=by
 rw[Zmj]
 constructor
 ·rintro⟨n,hn,rfl,h⟩
  have e:(Zbr b 0 n).s=(n:Int)-597:=by simp[Zbr]
  have e2:(Zbr b 0 n).k=cntF b ((n:Int)-597):=by simp[Zbr]
  rw[e,e2]
  exact⟨rfl,by omega⟩
 ·rintro⟨h1,h2⟩
  obtain⟨r1,r2⟩:=cnt_pos v (s:=q.s) (by omega)
  refine⟨(q.s+597).toNat,by omega,?_,?_⟩
  ·have e:(((q.s+597).toNat:Nat):Int)-597=q.s:=by omega
   obtain⟨s,k⟩:=q
   simp only[Zbr,Nat.sub_zero]at *
   rw[e,<-h1]
  ·have e:(((q.s+597).toNat:Nat):Int)-597=q.s:=by omega
   rw[e];omega
theorem Waa {b:Bk}(v:Zeo b):(∀ s,(cntF b s:Int)<=(ZiE b).k)∧((ZiE b).k=0∧(ZiE b).s=0∨0<(ZiE b).k∧(ZiE b).k=cntF b (ZiE b).s∧∀ s,(cntF b s:Int)=(ZiE b).k->(ZiE b).s<=s):=by
 by_cases hL:mostL b=[]
 ·have hz:∀ s,cntF b s=0:=by
   intro s
   refine Classical.byContradiction fun h=>?_
   have:(⟨s,cntF b s⟩:Pl)∈mostL b:=(Wav v).2 ⟨rfl,by show (0:Int)<(cntF b s:Int);omega⟩
   rw[hL]at this;simp at this
  have hm:ZiE b=pl0:=by rw[ZiE,hL];rfl
  rw[hm]
  refine⟨fun s=>?_,.inl ⟨rfl,rfl⟩⟩
  rw[hz s];exact Int.le_refl _
 ·obtain⟨h1,h2⟩:=Ziq hL
  obtain⟨h3,h4⟩:=(Wav v).1 h1
  have hb:∀ s,0<cntF b s->¬ betP ⟨s,cntF b s⟩ (ZiE b)=true:=fun s hs=>h2 _ ((Wav v).2 ⟨rfl,by show (0:Int)<(cntF b s:Int);omega⟩)
  have h3:(ZiE b).k=cntF b (ZiE b).s:=h3
  have h4:0<(ZiE b).k:=h4
  refine⟨fun s=>?_,.inr ⟨h4,h3,fun s hs=>?_⟩⟩
  ·by_cases h0:0<cntF b s
   ·have:=hb s h0
    rw[Zfy]at this
    simp only at this
    omega
   ·omega
  ·have:=hb s (by omega)
   rw[Zfy]at this
   simp only at this
   omega
theorem WaN {b:Bk}{z:Int}:z∈Zgv b↔∃ x∈Zae b,lowF b (Zas b x)=z:=List.mem_map
theorem WaB {b:Bk}{z:Int}:z∈ZdH b↔∃ x∈Zae b,Zfc b (Zas b x)=z:=List.mem_map
theorem Wai {b:Bk}(h:0<(Zae b).length):(∀ x∈Zae b,lowF b (Zas b x)<=sLow b)∧∃ x∈Zae b,lowF b (Zas b x)=sLow b:=by
 have hne:Zgv b≠[]:=by
  intro e
  have:(Zgv b).length=(Zae b).length:=List.length_map _
  rw[e]at this;simp at this;omega
 obtain⟨h1,h2⟩:=max_of hne
 exact⟨fun x hx=>h2 _ (WaN.2 ⟨x,hx,rfl⟩),WaN.1 h1⟩
theorem Waf {b:Bk}(h:0<(Zae b).length):(∀ x∈Zae b,sHigh b<=Zfc b (Zas b x))∧∃ x∈Zae b,Zfc b (Zas b x)=sHigh b:=by
 have hne:ZdH b≠[]:=by
  intro e
  have:(ZdH b).length=(Zae b).length:=List.length_map _
  rw[e]at this;simp at this;omega
 obtain⟨h1,h2⟩:=min_of hne
 exact⟨fun x hx=>h2 _ (WaB.2 ⟨x,hx,rfl⟩),WaB.1 h1⟩
theorem sure_iff {b:Bk}(h:0<(Zae b).length){s:Int}:(∀ x∈Zae b,Zcx b (Zas b x) s=true)↔sLow b<=s∧s<=sHigh b:=by
 obtain⟨a1,x,hx,a2⟩:=Wai h
 obtain⟨c1,y,hy,c2⟩:=Waf h
 constructor
 ·intro hh
  have:=Wab.1 (hh x hx)
  have:=Wab.1 (hh y hy)
  omega
 ·rintro⟨h1,h2⟩ z hz
  have:=a1 z hz
  have:=c1 z hz
  exact Wab.2 ⟨by omega,by omega⟩
theorem WaU {b:Bk}(h:0<(Zae b).length){s:Int}:cntF b s=(Zae b).length↔sLow b<=s∧s<=sHigh b:=by
 rw[cntF,Wag,sure_iff h]
theorem Waj {b:Bk}{x:Boat}:ZgD b x=true↔lowF b (Zas b x)<=Zfc b (Zas b x):=by rw[ZgD,decide_eq_true_eq]
theorem Wa6 {b:Bk}(v:Zeo b)(h:0<(Zae b).length)(hs:sLow b<=sHigh b):(ZiE b).k=(Zae b).length∧(ZiE b).s=sLow b∧((Zae b).filter (ZgD b)).length=(Zae b).length:=by
 obtain⟨h1,h2⟩:=Waa v
 have c0:=(WaU h (s:=sLow b)).2 ⟨Int.le_refl _,hs⟩
 have g0:=h1 (sLow b)
 have hk:(ZiE b).k=(Zae b).length:=by
  rcases h2 with ⟨h3,_⟩ | ⟨_,h3,_⟩
  ·omega
  ·have:=Wbd b (ZiE b).s;omega
 refine⟨hk,?_,Wag.2 fun x hx=>?_⟩
 ·rcases h2 with ⟨h3,_⟩ | ⟨_,h3,h4⟩
  ·omega
  ·have h5:=h4 (sLow b) (by omega)
   have h6:=(WaU h (s:=(ZiE b).s)).1 (by omega)
   omega
 ·have:=(Wai h).1 x hx
  have:=(Waf h).1 x hx
  exact Waj.2 (by omega)
theorem WaG {b:Bk}(v:Zeo b)(h:0<(Zae b).length)(hs:¬ sLow b<=sHigh b):(ZiE b).k<(Zae b).length:=by
 obtain⟨_,h2⟩:=Waa v
 rcases h2 with ⟨h3,_⟩ | ⟨_,h3,_⟩
 ·omega
 ·have h5:=Wbd b (ZiE b).s
  by_cases e:cntF b (ZiE b).s=(Zae b).length
  ·have:=(WaU h).1 e;omega
  ·omega
theorem Wa9 {b:Bk}(v:Zeo b):(ZiE b).k=0↔((Zae b).filter (ZgD b)).length=0:=by
 obtain⟨h1,h2⟩:=Waa v
 constructor
 ·intro hk
  refine Classical.byContradiction fun h=>?_
  obtain⟨x,hx⟩:=List.exists_mem_of_length_pos (Nat.pos_of_ne_zero h)
  obtain⟨h3,h4⟩:=List.mem_filter.1 hx
  have h5:=h1 (lowF b (Zas b x))
  have:0<cntF b (lowF b (Zas b x)):=List.length_pos_of_mem (List.mem_filter.2 ⟨h3,Wab.2 ⟨Int.le_refl _,Waj.1 h4⟩⟩)
  omega
 ·intro hf
  rcases h2 with ⟨h3,_⟩ | ⟨h4,h3,_⟩
  ·exact h3
  ·obtain⟨x,hx⟩:=List.exists_mem_of_length_pos (show 0<cntF b (ZiE b).s by omega)
   obtain⟨h5,h6⟩:=List.mem_filter.1 hx
   have:=List.length_pos_of_mem (List.mem_filter.2 ⟨h5,Waj.2 (by have:=Wab.1 h6;omega)⟩:x∈(Zae b).filter (ZgD b))
   omega
theorem WaT {b:Bk}(v:Zeo b):0<=(ZiE b).k∧(ZiE b).k<=(Zae b).length:=by
 obtain⟨_,h2⟩:=Waa v
 rcases h2 with ⟨h3,_⟩ | ⟨h4,h3,_⟩
 ·omega
 ·have:=Wbd b (ZiE b).s;omega
structure WaH (b o:Bk):Prop where
 op:o.op=b.op
 sl:o.sl=b.sl
 cks:o.cks=b.cks
 n:o.pts.length=b.pts.length
 ml:∀ i,i<b.pts.length->(ptAt o i).ml=(ptAt b i).ml∧(ptAt o i).mh=(ptAt b i).mh
 w:∀ i,i<b.pts.length->(ptAt o i).w=(ptAt b i).w
 b:∀ i,i<b.pts.length->(ptAt o i).bl<=(ptAt b i).bl∧(ptAt b i).bh<=(ptAt o i).bh
theorem WaY {b o:Bk}:∀ {i:Nat},(∀ j,j<i->(ptAt o j).ml=(ptAt b j).ml∧(ptAt o j).mh=(ptAt b j).mh)->mkL o i=mkL b i
 | 0,_=>rfl
 | i+1,h=>by
  have:Was o i=Was b i:=by rw[Was,Was,(h i (by omega)).1,(h i (by omega)).2]
  rw[mkL,mkL,WaY fun j hj=>h j (by omega),this]
theorem WaH.cand {b o:Bk}(h:WaH b o):Wa2 o=Wa2 b:=by
 have:ZaC o=ZaC b:=by rw[ZaC,ZaC,h.n,h.sl]
 rw[Wa2,Wa2,h.n,this,WaY h.ml]
theorem WaH.gaps {b o:Bk}(h:WaH b o)(x:Boat):Zas o x=Zas b x:=Wbb h.op h.n x
theorem WaH.boats {b o:Bk}(h:WaH b o)(v:Zeo b)(v':Zeo o):Zae o=Zae b:=by
 rw[WaC v',WaC v,h.cand]
 exact List.filter_congr fun x _=>Wa0 h.op h.n h.cks x
theorem WaH.low {b o:Bk}(h:WaH b o)(h1:1<=b.pts.length)(g:N4):lowF o g<=lowF b g∧Zfc b g<=Zfc o g:=by
 obtain⟨_,i,hi,e1⟩:=Waw (b:=o) g (by rw[h.n];exact h1)
 obtain⟨_,j,hj,e2⟩:=Wak (b:=o) g (by rw[h.n];exact h1)
 rw[h.n]at hi hj
 have a1:=(Waw (b:=b) g h1).1 i hi
 have a2:=(Wak (b:=b) g h1).1 j hj
 have:=h.b i hi
 have:=h.b j hj
 have:=h.w j hj
 omega
theorem WaH.fits {b o:Bk}(h:WaH b o)(v:Zeo b)(v':Zeo o):((Zae b).filter (ZgD b)).length<=((Zae o).filter (ZgD o)).length:=by
 rw[h.boats v v']
 refine Wad fun x _ hx=>?_
 have:=Waj.1 hx
 obtain⟨h1,h2⟩:=h.low (by have:=v.n;omega) (Zas b x)
 refine Waj.2 ?_
 rw[h.gaps]
 omega
theorem WaH.most {b o:Bk}(h:WaH b o)(v:Zeo b)(v':Zeo o):(ZiE b).k<=(ZiE o).k:=by
 have hc:cntF b (ZiE b).s<=cntF o (ZiE b).s:=by
  rw[cntF,cntF,h.boats v v']
  refine Wad fun x _ hx=>?_
  have:=Wab.1 hx
  obtain⟨h1,h2⟩:=h.low (by have:=v.n;omega) (Zas b x)
  refine Wab.2 ?_
  rw[h.gaps]
  omega
 have h1:=(Waa v').1 (ZiE b).s
 obtain⟨_,h2⟩:=Waa v
 have:=(WaT v').1
 rcases h2 with ⟨h3,_⟩ | ⟨h4,h3,_⟩<;>omega
theorem WaH.surely {b o:Bk}(h:WaH b o)(v:Zeo b)(v':Zeo o)(h0:0<(Zae b).length):sLow o<=sLow b∧sHigh b<=sHigh o:=by
 have hb:=h.boats v v'
 obtain⟨_,x,hx,e1⟩:=Wai (b:=o) (by rw[hb];exact h0)
 obtain⟨_,y,hy,e2⟩:=Waf (b:=o) (by rw[hb];exact h0)
 rw[hb]at hx hy
 have a1:=(Wai h0).1 x hx
 have a2:=(Waf h0).1 y hy
 obtain⟨h1,_⟩:=h.low (by have:=v.n;omega) (Zas b x)
 obtain⟨_,h2⟩:=h.low (by have:=v.n;omega) (Zas b y)
 rw[h.gaps]at e1 e2
 omega
end Go.Proofs
end
section
open Go Go.LL
namespace Go.Proofs
structure Learn (b o:Bk):Prop where
 op:o.op=b.op
 n:o.pts.length=b.pts.length
 bd:∀ i,i<b.pts.length->(ptAt o i).bl=(ptAt b i).bl∧(ptAt o i).bh=(ptAt b i).bh∧(ptAt o i).w=(ptAt b i).w
 sub:∀ x∈Zae o,x∈Zae b
theorem Learn.pos {b o:Bk}(h:Learn b o)(h0:0<(Zae o).length):0<(Zae b).length:=by
 obtain⟨x,hx⟩:=List.exists_mem_of_length_pos h0
 exact List.length_pos_of_mem (h.sub x hx)
end Go.Proofs
end
section
open Go Go.LL
namespace Go.Proofs
def updP (b:Bk)(f:Nat->SPt)(j:Nat):List SPt:=(List.range b.pts.length).map fun i=>if i<j then f i else ptAt b i
def ptsB (b:Bk)(f:Nat->SPt):Bk:={ b with pts:=updP b f b.pts.length }
theorem Wac (b:Bk)(f:Nat->SPt)(j:Nat):(updP b f j).length=b.pts.length:=by simp[updP]
theorem upd_zero (b:Bk)(f:Nat->SPt):updP b f 0=b.pts:=by
 refine List.ext_getElem (Wac b f 0) fun i h1 h2=>?_
 simp only[updP,List.getElem_map,List.getElem_range]
 rw[if_neg (by omega)]
 exact Zbd h2 _
theorem WaD (b:Bk)(f:Nat->SPt){i j:Nat}(h:i<(updP b f j).length):(updP b f j)[i]=if i<j then f i else ptAt b i:=by
 simp only[updP,List.getElem_map,List.getElem_range]
theorem upd_set (b:Bk)(f:Nat->SPt){j:Nat}:(updP b f j).set j (f j)=updP b f (j+1):=by
 refine List.ext_getElem (by rw[List.length_set,Wac,Wac]) fun i h1 h2=>?_
 rw[List.getElem_set,WaD,WaD]
 by_cases e:j=i
 ·subst e;rw[if_pos rfl,if_pos (by omega)]
 ·rw[if_neg e]
  by_cases h:i<j
  ·rw[if_pos h,if_pos (by omega)]
  ·rw[if_neg h,if_neg (by omega)]
theorem Wam (b:Bk)(f:Nat->SPt):(ptsB b f).pts.length=b.pts.length:=Wac b f _
theorem WaF {b:Bk}{f:Nat->SPt}{i:Nat}(hi:i<b.pts.length):ptAt (ptsB b f) i=f i:=by
 have h:i<(updP b f b.pts.length).length:=by rw[Wac];exact hi
 show (updP b f b.pts.length).getD i _=_
 rw[Zbd h,WaD,if_pos hi]
theorem Wa1 {b:Bk}{f:Nat->SPt}(v:Zeo b)(h:∀ i,i<b.pts.length->(0<=(f i).ml∧(f i).ml<=(f i).mh∧(f i).mh<=99)∧(f i).mh-(f i).ml<3∧(0<=(f i).bl∧(f i).bl<=(f i).bh∧(f i).bh<=199)∧(0<=(f i).w∧(f i).w<=199)):Zeo (ptsB b f) where
 op:=v.op
 sl:=v.sl
 n:=by rw[Wam];exact v.n
 pts:=fun i hi=>by
  have hi':i<b.pts.length:=by rw[Wam]at hi;exact hi
  have e:(ptsB b f).pts[i]=f i:=by rw[<-WaF (f:=f) hi'];exact(Zbd hi _).symm
  rw[e];exact h i hi'
 ckn:=v.ckn
 cks:=fun c hc=>by rw[Wam];exact v.cks c hc
end Go.Proofs
end
section
open Go Go.LL
namespace Go.Proofs
end Go.Proofs
end
section
open Go Go.LL
namespace Go.Proofs
theorem ne_no {p q:Prop}[Decidable p][Decidable q](h:p↔q):(decide p != decide q)=false:=by
 by_cases hq:q
 ·have hp:=h.2 hq
  simp[hp,hq]
 ·have hp:¬ p:=fun e=>hq (h.1 e)
  simp[hp,hq]
section
variable  {P:Prg}[Tz P][Loud P]{H:Hp}
set_option maxHeartbeats 4000000
set_option maxRecDepth 20000
end
end Go.Proofs
end
section
open Go Go.LL
namespace Go.Proofs
def nB (b:Bk):Nat:=(Zae b).length
def oS (b:Bk):Int:=if 0<nB b then 0 else 9
theorem WaS {b:Bk}(v:Zeo b):Zah b true=oS b:=open_eq v
theorem Wau {b:Bk}(h:0<nB b):oS b=0:=if_pos h
theorem Wat {b:Bk}(h:¬ 0<nB b):oS b=9:=if_neg h
theorem oS_iff {b:Bk}:oS b=0↔0<nB b:=by
 unfold oS
 split
 ·simp[*]
 ·simp[*]
theorem WaO {b:Bk}(v:Zeo b)(h:¬ 0<nB b):(ZiE b).s=0∧(ZiE b).k=0:=by
 obtain⟨_,h2⟩:=Waa v
 have:=WaT v
 unfold nB at h
 rcases h2 with ⟨h3,h4⟩ | ⟨h3,_⟩
 ·exact⟨h4,h3⟩
 ·omega
def hadF (b:Bk):Int:=if 0<nB b then Zhu ((Zae b).filter (ZgD b)).length (nB b) else 0
def Way (b:Bk):Bool:=decide (0<nB b∧sLow b<=sHigh b)
def WaE (b:Bk):Int:=if 0<nB b∧sLow b<=sHigh b then sLow b else 0
section
variable  {P:Prg}[Tz P][Loud P]{H:Hp}{bv:Value}{b:Bk}
theorem Wbe (v:Zeo b)(hb:BkAt H bv b)(hg:Za8 H):LL.Zag P 19 #[bv] H fun u H'=>Inc H H'∧u=.tuple #[vi (nB b),vi 0]:=
 LL.Zag.mono (ZfC hb hg (by have:=v.n;omega) (by have:=v.ckn;omega)) fun u H' h=>⟨h.1,by rw[h.2,Wa8 v];rfl⟩
theorem Had_v (v:Zeo b)(hb:BkAt H bv b)(hg:Za8 H):LL.Zag P 31 #[bv] H fun u H'=>Inc H H'∧u=.tuple #[vi (hadF b),vi (oS b)]:=
 LL.Zag.mono (Had_ok hb hg (by have:=v.n;omega) (by have:=v.ckn;omega)) fun u H' h=>⟨h.1,by
  rw[h.2,WaS v]
  have:(if oS b=0 then Zhu ((Zae b).filter (ZgD b)).length (Zae b).length else 0)=hadF b:=by
   unfold hadF
   by_cases h0:0<nB b
   ·rw[if_pos (Wau h0),if_pos h0];rfl
   ·rw[if_neg (by rw[Wat h0];decide),if_neg h0]
  rw[this]⟩
theorem WaZ (v:Zeo b)(hb:BkAt H bv b)(hg:Za8 H):LL.Zag P 33 #[bv] H fun u H'=>Inc H H'∧u=.tuple #[vi (WaE b),vb (Way b),vi (oS b)]:=
 LL.Zag.mono (Zm2 hb hg (by have:=v.n;omega) (by have:=v.ckn;omega)) fun u H' h=>⟨h.1,by
  rw[h.2,ZfI,WaS v,WaE,Way]
  by_cases h0:0<nB b
  ·rw[if_pos (Wau h0)]
   by_cases h1:sLow b<=sHigh b
   ·rw[if_neg (by omega),if_pos ⟨h0,h1⟩,decide_eq_true (show 0<nB b∧sLow b<=sHigh b from ⟨h0,h1⟩),Wau h0]
   ·rw[if_pos (by omega),if_neg (fun e=>h1 e.2),decide_eq_false (fun e=>h1 e.2),Wau h0]
  ·rw[if_neg (by rw[Wat h0];decide),if_neg (fun e=>h0 e.1),decide_eq_false (fun e=>h0 e.1)]⟩
theorem Most_v (hPP:P=PP)(v:Zeo b)(hb:BkAt H bv b)(hg:Za8 H):LL.Zag P 35 #[bv] H fun u H'=>Inc H H'∧u=.tuple #[vi (ZiE b).s,vi (ZiE b).k,vi (oS b)]:=
 LL.Zag.mono (Most_okP hPP hb hg (by have:=v.n;omega) (by have:=v.ckn;omega)) fun u H' h=>⟨h.1,by
  rw[h.2,WaS v]
  by_cases h0:0<nB b
  ·rw[if_pos (Wau h0),if_pos (Wau h0)]
  ·rw[if_neg (by rw[Wat h0];decide),if_neg (by rw[Wat h0];decide),(WaO v h0).1,(WaO v h0).2]⟩
end
end Go.Proofs
end
section
open Go Go.LL
namespace Go.Proofs
theorem Wa5 {a m:Int}(h:0<=a)(hm:0<m):0<=a.tmod m∧a.tmod m<m:=⟨Int.tmod_nonneg _ h,Int.tmod_lt_of_pos _ hm⟩
theorem Wbc {b:Bk}(h:fitB b=true):Zeo b:=by
 simp only[fitB,Bool.and_eq_true,decide_eq_true_eq]at h
 exact ZaS h.2
section
variable  {P:Prg}[Tz P][Loud P]{H:Hp}
set_option maxHeartbeats 16000000
set_option maxRecDepth 40000
end
end Go.Proofs
end
