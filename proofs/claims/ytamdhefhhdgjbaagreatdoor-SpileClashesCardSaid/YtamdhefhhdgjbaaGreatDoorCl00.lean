/- proofs about Leango given: part Cl0; made by a program out of the longer texts in wip -/
import Derived.Test.YtamdhefhhdgjbaaGreatDoorP44
set_option linter.all false
section
namespace Go.LL
section
variable  {P:Prg}{d:Option Nat}{r:List NI}{op:NOp}{Q:NSt->Hp->Prop}{next:NSt->Hp->Prop}{σ:NSt}{H:Hp}{x y z:Operand}{v:Value}
variable  {l:List (NI×Option Bool)}
variable  {Qe:Ex->NSt->Hp->Prop}{a b c:Zai}
end
section
variable  {P:Prg}{σ:NSt}{H:Hp}{Qe:Ex->NSt->Hp->Prop}{b:Zai}
theorem Wam {n j:Nat}{I:Nat->Hp->Prop}{env:Nat->List (Nat×Value)}{box:Nat->List (Nat×List Value)}{σ':NSt}{ds:List Deferred}(hj:j<n)(hI:I (j+1) H)(he:LeE (env (j+1)) σ')(hb:LeB (box (j+1)) σ')(hd:σ'.defs=ds) :
  ∃ j':{ j:Nat // j<=n },n-j'.1<n-j∧I j'.1 H∧LeE (env j'.1) σ'∧LeB (box j'.1) σ'∧σ'.defs=ds:=⟨⟨j+1,hj⟩,by show n-(j+1)<n-j;omega,hI,he,hb,hd⟩
end
end Go.LL
end
section
open Go Go.LL Go.Z
namespace Go.Proofs
def n68:Zai:=(sq [mi 4 0] (.seq (sq [mi 5 0] (.block 0 (.loop (.seq (sq [m 6 5,m 7 0,le 8 7,b 9 .lss 6 8] (.cond (t 9) .skip (.exit 0))) (.seq (.block 1 (.seq (sq [m 12 0,m 13 5,ia 14 1 12 13,ld 15 14,m 16 1,bk 17 .sub 16 1,o 18 (.call 53 [(t 15),(k 0),(t 17)]),o 19 (.not (t 18))] (.cond (t 19) (sq [mi 4 6] .ret) .skip)) (.seq (.drawn [(m 20 5,none),(bk 21 .gtr 20 0,none),(m 22 21,none),(mt 22 23 0,none),(mt 22 24 5,none),(gt 22 25 (.iadr 1 (t 23) (t 24)),none),(gt 22 26 (.ld none (t 25)),none),(mt 22 27 0,none),(mt 22 28 5,none),(gt 22 29 (.bin .sub (t 28) (k 1)),none),(gt 22 30 (.iadr 1 (t 27) (t 29)),none),(gt 22 31 (.ld none (t 30)),none),(gt 22 32 (.bin .leq (t 26) (t 31)),none),(pa 33 22 32,none)]) (.cond (t 33) (sq [mi 4 7] .ret) .skip)))) (.ops [m 10 5,bk 11 .add 10 1,m 5 11])))))) (sq [mi 4 0] .ret)))
def r68:List NRes:=[(.slot 4)]
theorem c68:IsN Tryz.prog 68 2 n68 r68:=isq [] Tryz.func68
end Go.Proofs
end
section
open Go Go.LL Go.Z
namespace Go.Proofs
def n69:Zai:=(sq [o 2 (.lbox 2 [2,17] (t 0)),o 4 (.lzero 4 [4] [z0,z0,s0,s0])] (sq [l 7 2 4 2,o 5 (.lzero 5 [5,8,15,27] [z0,z0,s0,s0]),ls 5 4 5 7] (sq [f 8 3 5,u (.lst 5 1 8 (.const s0))] (.seq (sq [mi 6 0] (.block 0 (.loop (.seq (sq [m 9 6,m 10 1,le 11 10,b 12 .lss 9 11] (.cond (t 12) .skip (.exit 0))) (.seq (.block 1 (.drawn [(f 15 3 5,none),(ln 16 5 15,none),(f 17 3 2,none),(ln 18 2 17,none),(m 19 1,none),(m 20 6,none),(ia 21 1 19 20,none),(ld 22 21,none),(ia 23 3 18 22,none),(lm 24 3 23,none),(o 25 (.buildS 51 1 [z0,z0,z0] [(0,(3,(t 24)))]),(some false)),(o 26 (.raw (.call (.mk (.builtin .append) #[(t 16),(t 25)] #[23,23])) 23),none),(f 27 3 5,none),(ls 5 1 27 26,none)])) (.ops [m 13 6,bk 14 .add 13 1,m 6 14])))))) (sq [l 28 5 4 5,ls 4 4 4 28] .ret)))))
def r69:List NRes:=[(.var 4 4 (some 4))]
theorem c69:IsN Tryz.prog 69 2 n69 r69:=isq [(2,2),(4,4),(5,5),(8,5),(15,5),(17,2),(27,5)] Tryz.func69
end Go.Proofs
end
section
open Go Go.LL Go.Z
namespace Go.Proofs
def n70:Zai:=(sq [o 4 (.mov (.const s0))] (.seq (.drawn [(m 6 0,none),(m 7 1,none),(o 8 (.pur (.slice 34 (t 6) none (some (t 7)) none) 34),none),(m 10 0,none),(m 11 1,none),(bk 12 .add 11 1,none),(o 13 (.pur (.slice 34 (t 10) (some (t 12)) none none) 34),none),(o 5 (.raw (.buildSlice 34 0 #[]) 34),(some false)),(o 9 (.raw (.call (.mk (.builtin .append) #[(t 5),(t 8)] #[34,34])) 34),(some false)),(o 14 (.raw (.call (.mk (.builtin .append) #[(t 9),(t 13)] #[34,34])) 34),none),(m 4 14,none)]) .ret))
def r70:List NRes:=[(.slot 4)]
theorem c70:IsN Tryz.prog 70 2 n70 r70:=isq [] Tryz.func70
def n135:Zai:=(sq [m0 4] (.seq (sq [mi 5 0] (.block 0 (.loop (.seq (sq [m 6 5,m 7 0,le 8 7,b 9 .lss 6 8,m 10 9,mt 10 11 5,mt 10 12 1,gt 10 13 (.len (t 12)),gt 10 14 (.bin .lss (t 11) (t 13)),pa 15 10 14] (.cond (t 15) .skip (.exit 0))) (.seq (.block 1 (.seq (.drawn [(m 18 0,none),(m 19 5,none),(ia 20 1 18 19,none),(ld 21 20,none),(m 22 1,none),(m 23 5,none),(ia 24 1 22 23,none),(ld 25 24,none),(b 26 .neq 21 25,none)]) (.cond (t 26) (.seq (.drawn [(m 27 0,none),(m 28 5,none),(ia 29 1 27 28,none),(ld 30 29,none),(m 31 1,none),(m 32 5,none),(ia 33 1 31 32,none),(ld 34 33,none),(b 35 .lss 30 34,none),(m 4 35,none)]) .ret) .skip))) (.ops [m 16 5,bk 17 .add 16 1,m 5 17])))))) (sq [m 36 0,le 37 36,m 38 1,le 39 38,b 40 .lss 37 39,m 4 40] .ret)))
def r135:List NRes:=[(.slot 4)]
theorem c135:IsN Tryz.prog 135 2 n135 r135:=isq [] Tryz.func135
end Go.Proofs
end
section
open Go Go.LL Go.Z
namespace Go.Proofs
def n71:Zai:=(sq [m0 4] (sq [m 5 0,le 6 5,m 7 1,le 8 7,b 9 .lss 6 8,m 10 9,mf 10 11 0,gf 10 12 (.len (t 11)),mf 10 13 1,gf 10 14 (.len (t 13)),gf 10 15 (.bin .eql (t 12) (t 14)),mf 10 16 15,mt 16 17 0,mt 16 18 1,gt 16 19 (.call 135 [(t 17),(t 18)]),gf 10 20 (.pick (t 16) (t 19) k0),po 21 10 20,m 4 21] .ret))
def r71:List NRes:=[(.slot 4)]
theorem c71:IsN Tryz.prog 71 2 n71 r71:=isq [] Tryz.func71
end Go.Proofs
end
section
open Go Go.LL
namespace Go.Proofs
theorem ui4:Tryz.prog.underlying 4=some .bool:=by kernel_rfl
section
variable  {P:Prg}[Tz P]{H:Hp}{g:Bool}{d:Nat}
end
end Go.Proofs
end
section
open Go Go.LL
namespace Go.Proofs
section
variable  {P:Prg}[Tz P]{H:Hp}{d:Option Nat}{next:NSt->Hp->Prop}{σ:NSt}{x y:Operand}{ty t2:TypeId}{v:Value}
theorem eq4_w' {a b:Bool}(d:Nat)(Q:Bool->Bool->Hp->Prop)(g:Bool)(H:Hp)(hq:Q (a == b) g H):wpL P.toPQ (Op.equalIn (d+1) 4 (vb a) (vb b)) Q g H:=by
 simp only[Op.equalIn,Zaa,Zad (und (P:=P) ui4),Zac]
 exact hq
theorem eq4_w {a b:Bool}(Q:Bool->Bool->Hp->Prop)(g:Bool)(H:Hp)(hq:Q (a == b) g H):wpL P.toPQ (Op.equalIn (9999+1) 4 (vb a) (vb b)) Q g H:=eq4_w' 9999 Q g H hq
theorem om_neb {a b:Bool}(e1:σ.get x=some (vb a))(e2:σ.get y=some (vb b))(h:next (σ.set d (vb (a != b))) H):(NOp.pur (.binOp .neq 4 x y t2) ty).m P d next σ H:=by
 refine Zcb (by simp[Op.operands,e1,e2]) ?_ h
 have:execOp (fun x=>(σ.get x).getD undef) (bare (.binOp .neq 4 x y t2) ty)=(do let v <-(do eqGuard .neq 4 x y (vb a) (vb b);binOp .neq 4 (vb a) (vb b));pure (.value v)):=by simp[execOp,bare,e1,e2]
 rw[this]
 refine Zgz fun Q g H hq=>?_
 simp only[eqGuard,Zaa,Zac]
 exact Zaa.2 (eq4_w _ _ _ hq)
end
end Go.Proofs
end
section
open Go Go.LL Go.Z
namespace Go.Proofs
def n11:Zai:=(sq [o 2 (.lbox 2 [2,40,92] (t 0)),m0 4] (.seq (sq [l 18 2 4 2,c1 19 48 18,o 20 (.not (t 19))] (.cond (t 20) (sq [c0 21 18,m 4 21] .ret) .skip)) (sq [l 23 2 4 2,c1 24 37 23,m 22 24,x 25 22 0,x 26 22 1,m 5 25,m 6 26] (sq [l 28 2 4 2,c1 29 19 28,m 27 29,x 30 27 0,x 31 27 1,m 7 30,m 8 31] (.seq (sq [m 32 6,bk 33 .neq 32 0,m 34 33,mf 34 35 8,gf 34 36 (.bin .neq (t 35) (k 0)),po 37 34 36,m 38 37,mf 38 39 5,gf 38 40 (.lfadr 3 2),gf 38 41 (.lld 2 none 40),gf 38 42 (.len (t 41)),gf 38 43 (.call 68 [(t 39),(t 42)]),gf 38 44 (.bin .neq (t 43) (k 0)),po 45 38 44,m 46 45,mf 46 47 7,gf 46 48 (.bin .eql (t 47) (k 0)),mf 46 49 5,gf 46 50 (.len (t 49)),gf 46 51 (.bin .gtr (t 50) (k 0)),gf 46 52 (.pur (.binOp .neq 4 (t 48) (t 51) 4) 4),po 53 46 52] (.cond (t 53) (sq [m0 4] .ret) .skip)) (.seq (sq [m 54 7,bk 55 .gtr 54 0] (.cond (t 55) (sq [c0 56 18,m 4 56] .ret) .skip)) (.seq (sq [l 58 2 4 2,m 59 5,c2 60 69 58 59,c1 61 19 60,m 57 61,x 62 57 0,x 63 57 1,m 9 62,m 10 63] (sq [m 64 10,bk 65 .neq 64 0,m 66 65,mf 66 67 9,gf 66 68 (.bin .neq (t 67) (k 0)),po 69 66 68] (.cond (t 69) (sq [m0 4] .ret) .skip))) (.seq (sq [mi 11 0] (.block 0 (.loop (.seq (sq [m 70 11,m 71 5,le 72 71,b 73 .lss 70 72] (.cond (t 73) .skip (.exit 0))) (.seq (.block 1 (.seq (.drawn [(l 77 2 4 2,none),(m 78 5,none),(m 79 11,none),(c2 80 70 78 79,(some false)),(c2 81 69 77 80,none),(c1 82 19 81,none),(m 76 82,none),(x 83 76 0,none),(x 84 76 1,none),(m 12 83,none),(m 13 84,none)]) (sq [m 85 13,bk 86 .neq 85 0,m 87 86,mf 87 88 12,gf 87 89 (.bin .eql (t 88) (k 0)),po 90 87 89] (.cond (t 90) (sq [m0 4] .ret) .skip)))) (.ops [m 74 11,bk 75 .add 74 1,m 11 75])))))) (sq [o 14 (.mov (.const s0))] (.seq (sq [mi 15 0] (.block 2 (.loop (.seq (sq [m 91 15,f 92 3 2,ln 93 2 92,le 94 93,b 95 .lss 91 94] (.cond (t 95) .skip (.exit 2))) (.seq (.block 3 (sq [m 98 1,m 99 15,o 100 (.pur (.binOp .shr 5 (t 98) (t 99) 3) 5),o 101 (.pur (.binOp .and 5 (t 100) (.const (.int .u8 1)) 5) 5),o 102 (.bin .eql (t 101) (.const (.int .u8 1)))] (.cond (t 102) (.ops [m 103 14,m 104 15,o 105 (.buildS 3 1 [z0] [(0,(1,(t 104)))]),o 106 (.raw (.call (.mk (.builtin .append) #[(t 103),(t 105)] #[34,34])) 34),m 14 106]) .skip))) (.ops [m 96 15,bk 97 .add 96 1,m 15 97])))))) (sq [l 108 2 4 2,m 109 14,c2 110 69 108 109,c1 111 19 110,m 107 111,x 112 107 0,x 113 107 1,m 16 112,m 17 113] (sq [m 114 17,bk 115 .eql 114 0,m 116 115,mt 116 117 16,gt 116 118 (.bin .gtr (t 117) (k 0)),mt 116 119 118,mf 119 120 14,mf 119 121 5,gf 119 122 (.call 71 [(t 120),(t 121)]),gf 119 123 (.not (t 122)),gt 116 124 (.pick (t 119) k1 (t 123)),pa 125 116 124,m 126 125,gt 126 127 (.call 18 []),pa 128 126 127,m 4 128] .ret))))))))))))
def r11:List NRes:=[(.slot 4)]
theorem c11:IsN Tryz.prog 11 2 n11 r11:=isq [(2,2),(40,2),(92,2)] Tryz.func11
end Go.Proofs
end
section
open Go Go.LL
namespace Go.Proofs
theorem ints_1 {H:Hp}{r:Nat}{E:TypeId}{x:Int}:SlAt (H.ins r (.cells [vi x].toArray E)) (.slice (some ⟨r,0,none⟩) 1 1) [x]:=Za4 (l:=[x])
section
variable  {P:Prg}[Tz P][Loud P]{H:Hp}
set_option maxHeartbeats 2000000
set_option maxRecDepth 20000
end
end Go.Proofs
end
section
open Go Go.LL
namespace Go.Proofs
def Wax (b:Bk)(i:Nat):List Int:=(List.range ((ptAt b i).mh-(ptAt b i).ml+1).toNat).map fun (t:Nat)=>(ptAt b i).ml+t
def mkL (b:Bk):Nat->List (List Int)
 | 0=>[[]]
 | i+1=>(mkL b i).flatMap fun l=>(Wax b i).map fun n=>l++[n]
theorem mk_mem {b:Bk}(v:Zeo b):∀ i,i<=b.pts.length->∀ l∈mkL b i,l.length=i∧∀ x∈l,0<=x∧x<=99
 | 0,_,l,hl=>by
  rw[mkL,List.mem_singleton]at hl
  subst hl;simp
 | i+1,hi,l,hl=>by
  rw[mkL,List.mem_flatMap]at hl
  obtain⟨m,hm,hl⟩:=hl
  obtain⟨n,hn,rfl⟩:=List.mem_map.1 hl
  obtain⟨h1,h2⟩:=mk_mem v i (by omega) m hm
  refine⟨by simp[h1],fun x hx=>?_⟩
  rcases List.mem_append.1 hx with hx | hx
  ·exact h2 x hx
  ·rw[List.mem_singleton.1 hx]
   rw[Wax,List.mem_map]at hn
   obtain⟨t,ht,rfl⟩:=hn
   rw[List.mem_range]at ht
   rw[show ptAt b i=b.pts[i] from Zbd (by omega) _]at ht ⊢
   have:=v.pts i (by omega)
   omega
section
variable  {P:Prg}[Tz P][Loud P]{H:Hp}
set_option maxHeartbeats 4000000
set_option maxRecDepth 20000
end
end Go.Proofs
end
section
open Go Go.LL
namespace Go.Proofs
def bodyF (b:Bk)(l:List Int)(ks:List Slip):List Boat:=(ks.map fun k=>(⟨n4of l,k.bf,k.by_⟩:Boat)).filter (ZgQ b)
def WaD (hi:Int):Nat->List Int
 | 0=>[]
 | c+1=>(hi-c) :: WaD hi c
theorem Wav (f:Int->List Boat)(hi:Int):∀ c,spanR f hi c=(WaD hi c).flatMap f
 | 0=>rfl
 | c+1=>by rw[spanR,WaD,List.flatMap_cons,Wav f hi c]
theorem WaC {hi:Int}:∀ {c:Nat},(WaD hi c).length=c∧∀ t,t<c->(WaD hi c)[t]? = some (hi-(c-1-t:Nat))
 | 0=>⟨rfl,fun t h=>by omega⟩
 | c+1=>by
  obtain⟨h1,h2⟩:=@WaC hi c
  refine⟨by rw[WaD,List.length_cons,h1],fun t ht=>?_⟩
  rw[WaD]
  cases t with
  | zero=>simp
  | succ t=>rw[List.getElem?_cons_succ,h2 t (by omega)];congr 2;omega
theorem spanL_eq {b:Bk}{i:Nat}:WaD (ptAt b i).mh ((ptAt b i).mh-(ptAt b i).ml+1).toNat=Wax b i:=by
 obtain⟨h1,h2⟩:=@WaC (ptAt b i).mh ((ptAt b i).mh-(ptAt b i).ml+1).toNat
 have hl:(Wax b i).length=((ptAt b i).mh-(ptAt b i).ml+1).toNat:=by simp[Wax]
 refine List.ext_getElem? fun t=>?_
 by_cases ht:t<((ptAt b i).mh-(ptAt b i).ml+1).toNat
 ·rw[h2 t ht,Wax,List.getElem?_map,List.getElem?_range ht]
  show some ((ptAt b i).mh-((((ptAt b i).mh-(ptAt b i).ml+1).toNat-1-t:Nat):Int))=some ((ptAt b i).ml+(t:Int))
  congr 1;omega
 ·rw[List.getElem?_eq_none (by omega),List.getElem?_eq_none (by omega)]
def lvN (b:Bk):Nat->List N4
 | 0=>[⟨0,0,0,0⟩]
 | i+1=>(lvN b i).flatMap fun m=>(Wax b i).map fun n=>m.put i n
theorem Wal {α β γ:Type}(l:List α)(f:α->List β)(g:β->List γ):(l.flatMap f).flatMap g=l.flatMap fun a=>(f a).flatMap g:=by
 induction l with
 | nil=>rfl
 | cons a l ih=>simp[List.flatMap_cons,List.flatMap_append,ih]
theorem Waa {α β γ:Type}(l:List α)(f:α->β)(g:β->List γ):(l.map f).flatMap g=l.flatMap fun a=>g (f a):=by
 induction l with
 | nil=>rfl
 | cons a l ih=>simp[List.flatMap_cons,ih]
theorem Wau {α β:Type}{l:List α}{f g:α->List β}(h:∀ a∈l,f a=g a):l.flatMap f=l.flatMap g:=by
 induction l with
 | nil=>rfl
 | cons a l ih=>rw[List.flatMap_cons,List.flatMap_cons,h a (List.mem_cons_self ..),ih fun x hx=>h x (List.mem_cons_of_mem _ hx)]
theorem lv_step {b:Bk}{r i:Nat}(h:b.pts.length=i+(r+1)):(lvN b (i+1)).flatMap (boatsFrom b r)=(lvN b i).flatMap (boatsFrom b (r+1)):=by
 rw[lvN,Wal]
 congr 1
 funext m
 rw[Waa,boatsFrom,Wav]
 have e:b.pts.length-(r+1)=i:=by omega
 rw[e,spanL_eq]
theorem lv_all {b:Bk}:∀ (r i:Nat),b.pts.length=i+r->(lvN b i).flatMap (boatsFrom b r)=(lvN b b.pts.length).flatMap (boatsFrom b 0)
 | 0,i,h=>by rw[h,Nat.add_zero]
 | r+1,i,h=>by rw[<-lv_step h];exact lv_all r (i+1) (by omega)
theorem boats_lv (b:Bk):Zae b=(lvN b b.pts.length).flatMap (boatsFrom b 0):=by
 rw[<-lv_all b.pts.length 0 (by omega)]
 simp[lvN,Zae]
theorem Wai {l:List Int}{j:Nat}(hj:j<4):(n4of l).get j=l.getD j 0:=N4.of_get _ hj
theorem lv_mk {b:Bk}(v:Zeo b):∀ i,i<=b.pts.length->lvN b i=(mkL b i).map n4of
 | 0,_=>rfl
 | i+1,hi=>by
  have hi4:i<4:=by have:=v.n;omega
  rw[lvN,lv_mk v i (by omega),mkL,Waa,List.map_flatMap]
  refine Wau fun l hl=>?_
  rw[List.map_map]
  refine List.map_congr_left fun n _=>?_
  obtain⟨h1,_⟩:=mk_mem v i (by omega) l hl
  refine N4.ext' fun j hj=>?_
  rw[N4.put_get _ _ hj,Wai hj]
  show _=(n4of (l++[n])).get j
  rw[Wai hj]
  simp only[List.getD_eq_getElem?_getD]
  by_cases e:j=i
  ·subst e
   rw[if_pos rfl,List.getElem?_append_right (by omega),h1]
   simp
  ·rw[if_neg e]
   by_cases e2:j<i
   ·rw[List.getElem?_append_left (by omega)]
   ·rw[List.getElem?_eq_none (by omega),List.getElem?_eq_none (by rw[List.length_append,List.length_singleton];omega)]
theorem boats_mk {b:Bk}(v:Zeo b):Zae b=(mkL b b.pts.length).flatMap fun l=>bodyF b l (ZaC b):=by
 rw[boats_lv,lv_mk v _ (Nat.le_refl _),Waa]
 rfl
section
variable  {P:Prg}[Tz P][Loud P]{H:Hp}
set_option maxHeartbeats 4000000
set_option maxRecDepth 20000
end
end Go.Proofs
end
section
open Go Go.LL
namespace Go.Proofs
theorem own_len {α:Type}[Enc α]{H0 H:Hp}{E:TypeId}{v:Value}{l:List α}{b:Option Nat}(h:Own H0 H E v l b):∃ A c,v=.slice A l.length c:=by
 obtain⟨A,c,h1,_⟩:=h.sl
 exact⟨A,c,h1⟩
section
variable  {P:Prg}[Tz P][Loud P]{H:Hp}
set_option maxHeartbeats 8000000
set_option maxRecDepth 40000
end
end Go.Proofs
end
section
open Go Go.LL Go.Conc Go.ConcM
namespace Go.Proofs
open YtamdhefhhdgjbaaGreatDoor Go.ChangeShapes Go.WideShapes
section
set_option maxRecDepth 100000
variable  {H:Type}{enc:TypeId×Value->H}{W:World}{base:Nat}{sp:Nat->Bool}{held:Bool}{fuel:Nat}{cs:List Value}{y:DataW H×List MemPlace}{r:Reach}{b0:Nat}{v:Value}{d:DataW H}{ps:List MemPlace}
theorem u8_open (hval:Value.okWide Tryz.prog W r b0 5 v)(hd:DataW.Trod enc Tryz.prog W base sp held 5 v d ps):∃ n,v=.int .u8 n∧0<=n∧n<256:=by
 obtain⟨n,rfl,_,_,hw⟩:=open_int Tryz.underlying5 hval hd
 simp only[Lit.wf,Bool.and_eq_true,decide_eq_true_eq]at hw
 have h1:IntKind.u8.min=0:=rfl
 have h2:IntKind.u8.max=255:=rfl
 exact⟨n,rfl,by omega,by omega⟩
end
end Go.Proofs
end
section
open Go Go.LL Go.Conc Go.ConcM
namespace Go.Proofs.YtamdhefhhdgjbaaGreatDoor
theorem Waq:Tryz.pinned.checked.prog.funcNamed Rows.spileClashesRow.func=some 11:=by kernel_rfl
theorem Wap:joinedFacts Tryz.pinned.checked.prog 11 Tryz.f11 Rows.spileClashesSpec Rows.spileClashesRow=true:=by kernel_rfl
theorem Wao:Tryz.f11.isInstance Tryz.pinned.checked.prog Rows.spileClashesRow.origin Rows.spileClashesRow.targs:=of_decide_eq_true (by kernel_rfl)
theorem Wan:Tryz.f11.isWrapper Tryz.pinned.checked.prog Rows.spileClashesRow.wrapper Rows.spileClashesRow.mainSum:=by unfold Func.isWrapper;first | (rw[if_pos (by decide +kernel)];kernel_rfl) | (rw[if_neg (by decide +kernel)];exact⟨rfl,rfl⟩)
end Go.Proofs.YtamdhefhhdgjbaaGreatDoor
end
section
open Go Go.LL
namespace Go.Proofs
theorem WaE {b:Bk}{i:Nat}{n:Int}:n∈Wax b i↔(ptAt b i).ml<=n∧n<=(ptAt b i).mh:=by
 rw[Wax,List.mem_map]
 constructor
 ·rintro⟨t,ht,rfl⟩
  rw[List.mem_range]at ht
  omega
 ·rintro⟨h1,h2⟩
  exact⟨(n-(ptAt b i).ml).toNat,by rw[List.mem_range];omega,by omega⟩
theorem getD_app {l:List Int}{n:Int}{j:Nat}:(l++[n]).getD j 0=if j<l.length then l.getD j 0 else if j=l.length then n else 0:=by
 simp only[List.getD_eq_getElem?_getD]
 by_cases h:j<l.length
 ·rw[if_pos h,List.getElem?_append_left h]
 ·rw[if_neg h,List.getElem?_append_right (by omega)]
  by_cases h2:j=l.length
  ·subst h2;simp
  ·rw[if_neg h2,List.getElem?_eq_none (by simp;omega)];rfl
theorem WaH {l:List Int}{i j:Nat}(h:j<i):(l.take i).getD j 0=l.getD j 0:=by
 simp only[List.getD_eq_getElem?_getD,List.getElem?_take_of_lt h]
theorem WaO {b:Bk}:∀ {i:Nat} {l:List Int},l∈mkL b i↔l.length=i∧∀ j,j<i->(ptAt b j).ml<=l.getD j 0∧l.getD j 0<=(ptAt b j).mh
 | 0,l=>by
  rw[mkL,List.mem_singleton]
  constructor
  ·rintro rfl;exact⟨rfl,fun j h=>by omega⟩
  ·rintro⟨h,_⟩;exact List.length_eq_zero_iff.1 h
 | i+1,l=>by
  rw[mkL,List.mem_flatMap]
  constructor
  ·rintro⟨m,hm,hl⟩
   obtain⟨n,hn,rfl⟩:=List.mem_map.1 hl
   obtain⟨h1,h2⟩:=WaO.1 hm
   refine⟨by simp[h1],fun j hj=>?_⟩
   rw[getD_app]
   by_cases e:j<i
   ·rw[if_pos (by omega)];exact h2 j e
   ·rw[if_neg (by omega),if_pos (by omega)]
    obtain rfl:j=i:=by omega
    exact WaE.1 hn
  ·rintro⟨h1,h2⟩
   refine⟨l.take i,WaO.2 ⟨by rw[List.length_take];omega,fun j hj=>?_⟩,List.mem_map.2 ⟨l.getD i 0,WaE.2 (h2 i (by omega)),?_⟩⟩
   ·rw[WaH hj];exact h2 j (by omega)
   ·have:=Zi7 (l:=l) (n:=i) (by omega)
    rw[<-h1,List.take_length]at this
    exact this.symm
theorem WaG {bf:Int}{sl:Nat}{k:Slip}:∀ {r:Nat},k∈innerR bf sl r↔k.bf=bf∧(sl:Int)-r<k.by_∧k.by_<=sl∧k.by_≠0
 | 0=>by rw[innerR];simp;omega
 | r+1=>by
  have ih:=@WaG bf sl k r
  rw[innerR]
  split
  ·rw[ih];constructor
   ·rintro⟨h1,h2,h3,h4⟩;exact⟨h1,by omega,h3,h4⟩
   ·rintro⟨h1,h2,h3,h4⟩;exact⟨h1,by omega,h3,h4⟩
  ·rw[List.mem_cons,ih]
   obtain⟨kf,ky⟩:=k
   simp only[Slip.mk.injEq]
   omega
theorem WaF {n sl:Nat}{k:Slip}:∀ {r:Nat},r+1<=n->(k∈outerR n sl r↔((n:Int)-r<=k.bf∧k.bf<n)∧-(sl:Int)<=k.by_∧k.by_<=sl∧k.by_≠0)
 | 0,_=>by rw[outerR];simp;omega
 | r+1,h=>by
  rw[outerR,List.mem_append,WaG,WaF (by omega)]
  omega
theorem WaS {b:Bk}(v:Zeo b){k:Slip}:k∈ZaC b↔k=⟨0,0⟩∨((1<=k.bf∧k.bf<b.pts.length)∧-b.sl<=k.by_∧k.by_<=b.sl∧k.by_≠0):=by
 have:=v.sl
 have:=v.n
 rw[ZaC,List.mem_cons,WaF (by omega)]
 have e:((b.sl.toNat:Nat):Int)=b.sl:=by omega
 have e2:((b.pts.length-1:Nat):Int)=b.pts.length-1:=by omega
 rw[e,e2]
 refine or_congr Iff.rfl ?_
 omega
def WaP (b:Bk):List Boat:=(mkL b b.pts.length).flatMap fun l=>(ZaC b).map fun k=>(⟨n4of l,k.bf,k.by_⟩:Boat)
theorem Wat {α β:Type}(l:List α)(f:α->List β)(p:β->Bool):(l.flatMap f).filter p=l.flatMap fun a=>(f a).filter p:=by
 induction l with
 | nil=>rfl
 | cons a l ih=>simp[List.flatMap_cons,ih]
theorem WaQ {b:Bk}(v:Zeo b):Zae b=(WaP b).filter (ZgQ b):=by
 rw[boats_mk v,WaP,Wat]
 rfl
theorem cand_iff {b:Bk}(v:Zeo b){x:Boat}:x∈WaP b↔(∀ j,j<b.pts.length->(ptAt b j).ml<=x.m.get j∧x.m.get j<=(ptAt b j).mh)∧(∀ j,b.pts.length<=j->j<4->x.m.get j=0)∧(⟨x.bf,x.by_⟩:Slip)∈ZaC b:=by
 have hn:=v.n
 rw[WaP,List.mem_flatMap]
 constructor
 ·rintro⟨l,hl,hx⟩
  obtain⟨k,hk,rfl⟩:=List.mem_map.1 hx
  obtain⟨h1,h2⟩:=WaO.1 hl
  refine⟨fun j hj=>?_,fun j hj h4=>?_,hk⟩
  ·show _<=(n4of l).get j∧(n4of l).get j<=_
   rw[Wai (by omega)];exact h2 j hj
  ·show (n4of l).get j=0
   rw[Wai h4,List.getD_eq_getElem?_getD,List.getElem?_eq_none (by omega)];rfl
 ·rintro⟨h1,h2,h3⟩
  have hL:∀ j,j<b.pts.length->(x.m.list.take b.pts.length).getD j 0=x.m.get j:=by
   intro j hj
   rw[WaH hj]
   match j,(by omega:j<4) with
   | 0,_=>rfl
   | 1,_=>rfl
   | 2,_=>rfl
   | 3,_=>rfl
  refine⟨x.m.list.take b.pts.length,WaO.2 ⟨by rw[List.length_take];show min _ 4=_;omega,fun j hj=>?_⟩,List.mem_map.2 ⟨⟨x.bf,x.by_⟩,h3,?_⟩⟩
  ·rw[hL j hj];exact h1 j hj
  ·have:n4of (x.m.list.take b.pts.length)=x.m:=by
    refine N4.ext' fun j h4=>?_
    rw[Wai h4]
    by_cases hj:j<b.pts.length
    ·exact hL j hj
    ·rw[h2 j (by omega) h4,List.getD_eq_getElem?_getD,List.getElem?_eq_none (by rw[List.length_take];omega)];rfl
   rw[this]
theorem WaY {b:Bk}(v:Zeo b){x:Boat}:x∈Zae b↔x∈WaP b∧ZgQ b x=true:=by
 rw[WaQ v,List.mem_filter]
theorem Wah {α:Type}[DecidableEq α]:∀ {l m:List α},l.Nodup->(∀ x∈l,x∈m)->l.length<=m.length
 | [],_,_,_=>Nat.zero_le _
 | a :: l,m,hn,hs=>by
  obtain⟨h1,h2⟩:=List.nodup_cons.1 hn
  have ha:=hs a (List.mem_cons_self ..)
  have:=Wah (l:=l) (m:=m.erase a) h2 fun x hx=>(List.mem_erase_of_ne (by rintro rfl;exact h1 hx)).2 (hs x (List.mem_cons_of_mem _ hx))
  rw[List.length_erase_of_mem ha]at this
  have:=List.length_pos_of_mem ha
  rw[List.length_cons];omega
end Go.Proofs
end
section
open Go Go.LL
namespace Go.Proofs
section
variable  {P:Prg}[Tz P][Loud P]{H:Hp}
set_option maxHeartbeats 4000000
set_option maxRecDepth 20000
end
end Go.Proofs
end
section
open Go Go.LL
namespace Go.Proofs
end Go.Proofs
end
section
open Go Go.LL
namespace Go.Proofs
theorem ckS_of {n:Nat}:∀ {l:List SCk},(∀ c∈l,(0<=c.p∧c.p<n)∧(-199<=c.gl∧c.gl<=c.gh∧c.gh<=199))->ckS n l=0
 | [],_=>rfl
 | c :: l,h=>by
  have h1:=h c (List.mem_cons_self ..)
  rw[ckS,if_neg (by omega),if_neg (by omega)]
  exact ckS_of fun d hd=>h d (List.mem_cons_of_mem _ hd)
theorem WaL {b:Bk}(v:Zeo b):snag b=0:=by
 have h1:Zbj b=0:=by rw[Zbj,if_pos ⟨v.op,v.sl⟩]
 have h2:Zbk b=0:=by
  rw[Zbk,if_neg (by have:=v.n;omega),if_pos]
  rw[List.all_eq_true]
  intro p hp
  obtain⟨i,hi,rfl⟩:=List.mem_iff_getElem.1 hp
  obtain⟨a1,a2,a3,a4⟩:=v.pts i hi
  simp only[okP,Bool.and_eq_true,decide_eq_true_eq]
  exact⟨⟨⟨a1,a2⟩,a3⟩,a4⟩
 have h3:ckS b.pts.length b.cks=0:=ckS_of v.cks
 rw[snag,if_neg (by simp[h1]),if_neg (by simp[h2]),ZbJ,if_neg (by have:=v.ckn;omega),h3]
theorem Wad {b:Bk}:Zc9 b=true↔0<(Zae b).length:=by
 rw[Zc9]
 cases Zae b<;>simp
end Go.Proofs
end
section
open Go Go.LL
namespace Go.Proofs
end Go.Proofs
end
section
open Go Go.LL
namespace Go.Proofs
structure Wider (b o:Bk):Prop where
 op:o.op=b.op
 sl:o.sl=b.sl
 cks:o.cks=b.cks
 n:o.pts.length=b.pts.length
 ml:∀ i,i<b.pts.length->(ptAt o i).ml=(ptAt b i).ml∧(ptAt o i).mh=(ptAt b i).mh
 w:∀ i,i<b.pts.length->(ptAt o i).w=(ptAt b i).w
 b:∀ i,i<b.pts.length->(ptAt o i).bl<=(ptAt b i).bl∧(ptAt b i).bh<=(ptAt o i).bh
end Go.Proofs
end
section
open Go Go.LL
namespace Go.Proofs
structure Learn (b o:Bk):Prop where
 op:o.op=b.op
 n:o.pts.length=b.pts.length
 bd:∀ i,i<b.pts.length->(ptAt o i).bl=(ptAt b i).bl∧(ptAt o i).bh=(ptAt b i).bh∧(ptAt o i).w=(ptAt b i).w
 sub:∀ x∈Zae o,x∈Zae b
theorem Learn.pos {b o:Bk}(h:Learn b o)(h0:0<(Zae o).length):0<(Zae b).length:=by
 obtain⟨x,hx⟩:=List.exists_mem_of_length_pos h0
 exact List.length_pos_of_mem (h.sub x hx)
end Go.Proofs
end
section
open Go Go.LL
namespace Go.Proofs
end Go.Proofs
end
section
open Go Go.LL
namespace Go.Proofs
end Go.Proofs
end
section
open Go Go.LL
namespace Go.Proofs
theorem ne_no {p q:Prop}[Decidable p][Decidable q](h:p↔q):(decide p != decide q)=false:=by
 by_cases hq:q
 ·have hp:=h.2 hq
  simp[hp,hq]
 ·have hp:¬ p:=fun e=>hq (h.1 e)
  simp[hp,hq]
section
variable  {P:Prg}[Tz P][Loud P]{H:Hp}
set_option maxHeartbeats 4000000
set_option maxRecDepth 20000
end
end Go.Proofs
end
section
open Go Go.LL
namespace Go.Proofs
def nB (b:Bk):Nat:=(Zae b).length
section
variable  {P:Prg}[Tz P][Loud P]{H:Hp}{bv:Value}{b:Bk}
theorem WaB (v:Zeo b)(hb:BkAt H bv b)(hg:Za8 H):LL.Zag P 19 #[bv] H fun u H'=>Inc H H'∧u=.tuple #[vi (nB b),vi 0]:=
 LL.Zag.mono (ZfC hb hg (by have:=v.n;omega) (by have:=v.ckn;omega)) fun u H' h=>⟨h.1,by rw[h.2,WaL v];rfl⟩
end
end Go.Proofs
end
section
open Go Go.LL
namespace Go.Proofs
theorem WaV {b:Bk}(h:fitB b=true):Zeo b:=by
 simp only[fitB,Bool.and_eq_true,decide_eq_true_eq]at h
 exact ZaS h.2
section
variable  {P:Prg}[Tz P][Loud P]{H:Hp}
set_option maxHeartbeats 16000000
set_option maxRecDepth 40000
end
end Go.Proofs
end
section
open Go Go.LL
namespace Go.Proofs
section
variable  {P:Prg}[Tz P][Loud P]{H:Hp}
set_option maxHeartbeats 8000000
set_option maxRecDepth 20000
end
end Go.Proofs
end
section
open Go Go.LL
namespace Go.Proofs
section
variable  {P:Prg}[Tz P][Loud P]{H:Hp}
set_option maxHeartbeats 8000000
set_option maxRecDepth 20000
end
end Go.Proofs
end
section
open Go Go.LL
namespace Go.Proofs
structure BrN (p q n m i few many all:Int)(su st:Bool):Prop where
 p3:p=0∨p=1∨p=2
 a1:p=1->q=1
 a2:p≠2->q≠2
 a3:su=true->st=true∧m<=n
 a4:few<=many
 a5:many<=all
 a6:su=true->few=all∧i=n∧p=1
 a7:su=false->few<all
 a8:few=0↔p=2
section
variable  {P:Prg}[Tz P][Loud P]{H:Hp}
set_option maxHeartbeats 16000000
set_option maxRecDepth 40000
end
end Go.Proofs
end
section
open Go Go.LL
namespace Go.Proofs
section
variable  {P:Prg}[Tz P][Loud P]{H:Hp}
set_option maxHeartbeats 16000000
set_option maxRecDepth 40000
end
end Go.Proofs
end
section
open Go Go.LL
namespace Go.Proofs
section
variable  {P:Prg}[Tz P][Loud P]{H:Hp}
set_option maxHeartbeats 16000000
set_option maxRecDepth 40000
end
end Go.Proofs
end
section
open Go Go.LL
namespace Go.Proofs
section
variable  {P:Prg}[Tz P][Loud P]{H:Hp}
set_option maxHeartbeats 16000000
set_option maxRecDepth 40000
end
end Go.Proofs
end
section
open Go Go.LL
namespace Go.Proofs
section
variable  {P:Prg}[Tz P][Loud P]{H:Hp}
set_option maxHeartbeats 16000000
set_option maxRecDepth 40000
end
end Go.Proofs
end
section
open Go Go.LL
namespace Go.Proofs
theorem ckE (c:SCk):Enc.enc c=[vi c.p,vi c.gl,vi c.gh]:=rfl
section
variable  {P:Prg}[Tz P][Loud P]{H:Hp}
set_option maxHeartbeats 8000000
set_option maxRecDepth 20000
end
end Go.Proofs
end
section
open Go Go.LL
namespace Go.Proofs
theorem Wab {x y:Int}{a c:List Int}:cmpL (x :: a) (y :: c)<0↔x<y∨(x=y∧cmpL a c<0):=by
 rw[cmpL,cmpI]
 by_cases h1:x<y
 ·simp[h1]
 ·by_cases h2:y<x
  ·simp[h1,h2];omega
  ·have:x=y:=by omega
   simp[this]
theorem WaI:∀ a:List Int,¬ cmpL a a<0
 | []=>by simp[cmpL]
 | x :: a=>by rw[Wab];have:=WaI a;omega
theorem WaJ:∀ {a c:List Int},cmpL a c<0->¬ cmpL c a<0
 | [],[],h=>by simp[cmpL]at h
 | [],_ :: _,_=>by simp[cmpL]
 | _ :: _,[],h=>by simp[cmpL]at h
 | x :: a,y :: c,h=>by
  rw[Wab]at h ⊢
  rcases h with h | ⟨rfl,h⟩
  ·omega
  ·have:=WaJ h;omega
theorem WaW:∀ {a c:List Int} (d:List Int),cmpL a c<0->cmpL a d<0∨cmpL d c<0
 | [],[],_,h=>by simp[cmpL]at h
 | _ :: _,[],_,h=>by simp[cmpL]at h
 | [],_ :: _,[],_=>by simp[cmpL]
 | [],_ :: _,_ :: _,_=>by simp[cmpL]
 | _ :: _,_ :: _,[],_=>by simp[cmpL]
 | x :: a,y :: c,z :: d,h=>by
  rw[Wab]at h ⊢
  rw[Wab]
  rcases h with h | ⟨rfl,h⟩
  ·by_cases h2:x<z
   ·exact .inl (.inl h2)
   ·exact .inr (.inl (by omega))
  ·by_cases h2:x<z
   ·exact .inl (.inl h2)
   ·by_cases h3:z<x
    ·exact .inr (.inl h3)
    ·obtain rfl:x=z:=by omega
     rcases WaW d h with h | h
     ·exact .inl (.inr ⟨rfl,h⟩)
     ·exact .inr (.inr ⟨rfl,h⟩)
theorem Waj {a c:List Int}:fewF a c=true↔a.length<c.length∨(a.length=c.length∧cmpL a c<0):=by simp[fewF]
theorem few_self (a:List Int):¬ fewF a a=true:=by rw[Waj];have:=WaI a;omega
theorem few_asym {a c:List Int}(h:fewF a c=true):¬ fewF c a=true:=by
 rw[Waj]at h ⊢
 rcases h with h | ⟨h1,h2⟩
 ·omega
 ·have:=WaJ h2;omega
theorem few_co {a c:List Int}(d:List Int)(h:fewF a c=true):fewF a d=true∨fewF d c=true:=by
 rw[Waj,Waj]
 rw[Waj]at h
 rcases h with h | ⟨h1,h2⟩
 ·omega
 ·have:=WaW d h2
  omega
theorem Wak {α:Type}{bet:α->α->Bool}(irr:∀ a,¬ bet a a=true)(asym:∀ a c,bet a c=true->¬ bet c a=true)(co:∀ a c d,bet a c=true->bet a d=true∨bet d c=true) :
  ∀ (l:List α) (f:α),(Zbq bet f l=f∨Zbq bet f l∈l)∧∀ q,q=f∨q∈l->¬ bet q (Zbq bet f l)=true
 | [],f=>⟨.inl rfl,fun q hq=>by
  rcases hq with rfl | hq
  ·exact irr _
  ·simp at hq⟩
 | x :: l,f=>by
  have e:Zbq bet f (x :: l)=Zbq bet (if bet x f then x else f) l:=rfl
  rw[e]
  by_cases hx:bet x f=true
  ·rw[if_pos hx]
   obtain⟨h1,h2⟩:=Wak irr asym co l x
   refine⟨.inr (List.mem_cons.2 h1),fun q hq=>?_⟩
   rcases hq with rfl | hq
   ·intro hb
    rcases co _ _ x hb with h | h
    ·exact asym _ _ hx h
    ·exact h2 x (.inl rfl) h
   ·exact h2 q (List.mem_cons.1 hq)
  ·rw[if_neg hx]
   obtain⟨h1,h2⟩:=Wak irr asym co l f
   refine⟨h1.imp id (List.mem_cons_of_mem _),fun q hq=>?_⟩
   rcases hq with rfl | hq
   ·exact h2 _ (.inl rfl)
   ·rcases List.mem_cons.1 hq with rfl | hq
    ·intro hb
     rcases co _ _ f hb with h | h
     ·exact hx h
     ·exact h2 f (.inl rfl) h
    ·exact h2 q (.inr hq)
theorem best_few {L:List (List Int)}(h:L≠[]):Zbq fewF (L.getD 0 []) (L.drop 1)∈L∧∀ q∈L,¬ fewF q (Zbq fewF (L.getD 0 []) (L.drop 1))=true:=by
 cases L with
 | nil=>exact absurd rfl h
 | cons f l=>
  obtain⟨h1,h2⟩:=Wak few_self (fun _ _=>few_asym) (fun _ _ d=>few_co d) l f
  exact⟨List.mem_cons.2 h1,fun q hq=>h2 q (List.mem_cons.1 hq)⟩
def Asc (n:Nat)(l:List Int):Prop:=l.Pairwise (·<·)∧∀ z∈l,0<=z∧z<n
theorem WaK (m n:Nat):Asc n (ZcL m n):=by
 refine⟨?_,fun z hz=>?_⟩
 ·rw[ZcL,List.pairwise_map]
  refine List.Pairwise.imp (fun h=>?_) ((List.pairwise_lt_range (n:=n)).sublist (List.filter_sublist (p:=fun i=>m.testBit i)))
  omega
 ·obtain⟨i,hi,rfl⟩:=List.mem_map.1 hz
  have:=(List.mem_filter.1 hi).1
  rw[List.mem_range]at this
  omega
theorem Waz:∀ {n:Nat} {l:List Int},Asc n l->∃ m,m<2 ^ n∧ZcL m n=l
 | 0,l,⟨_,h⟩=>by
  have:l=[]:=List.eq_nil_iff_forall_not_mem.2 fun z hz=>by have:=h z hz;omega
  exact⟨0,by decide,by rw[this];rfl⟩
 | n+1,l,⟨h1,h2⟩=>by
  have keep:Asc n l->∃ m,m<2 ^ (n+1)∧ZcL m (n+1)=l:=fun h=>by
   obtain⟨m,hm,e⟩:=Waz h
   refine⟨m,by rw[Nat.pow_succ];omega,?_⟩
   rw[ZcL,Zmm,Nat.testBit_lt_two_pow hm]
   simpa[ZcL]using e
  rcases List.eq_nil_or_concat l with rfl | ⟨l',z,rfl⟩
  ·exact keep ⟨.nil,by simp⟩
  ·rw[List.concat_eq_append]at *
   rw[List.pairwise_append]at h1
   obtain⟨a1,_,a3⟩:=h1
   have hz:=h2 z (by simp)
   have hl:∀ y∈l',y<z:=fun y hy=>a3 y hy z (by simp)
   by_cases e:z=n
   ·have hA:Asc n l':=⟨a1,fun y hy=>⟨(h2 y (by simp[hy])).1,by have:=hl y hy;omega⟩⟩
    obtain⟨m,hm,em⟩:=Waz hA
    refine⟨2 ^ n+m,by rw[Nat.pow_succ];omega,?_⟩
    have e1:ZgB (2 ^ n+m) n=ZgB m n:=List.filter_congr fun i hi=>Nat.testBit_two_pow_add_gt (List.mem_range.1 hi) m
    rw[ZcL,Zmm,e1,Nat.testBit_two_pow_add_eq,Nat.testBit_lt_two_pow hm]
    rw[ZcL]at em
    simp[em,e]
   ·refine keep ⟨List.pairwise_append.2 ⟨a1,List.pairwise_singleton _ _,a3⟩,fun y hy=>?_⟩
    have:=h2 y hy
    rcases List.mem_append.1 hy with hy | hy
    ·have:=hl y hy;omega
    ·rw[List.mem_singleton.1 hy];omega
def Wag (b:Bk)(l:List Int):Bk:={ b with cks:=l.map fun z=>ckAt b z.toNat }
theorem Waw (b:Bk)(m:Nat):Wag b (Zej b m)=Ze9 b m:=by
 have:(Zej b m).map (fun z=>ckAt b z.toNat)=Zcn b m b.cks.length:=by
  rw[Zej,ZcL,Zcn,List.map_map]
  exact List.map_congr_left fun i _=>rfl
 rw[Wag,Ze9,this]
theorem WaN {b:Bk}{l:List Int}(h:Asc b.cks.length l):∃ m,m<2 ^ b.cks.length∧Zej b m=l∧Wag b l=Ze9 b m:=by
 obtain⟨m,hm,e⟩:=Waz h
 exact⟨m,hm,e,by rw[<-Waw,show Zej b m=l from e]⟩
theorem Wac {b:Bk}{l:List Int}(v:Zeo b)(h:Asc b.cks.length l):Zeo (Wag b l):=by
 obtain⟨m,_,_,e⟩:=WaN h
 rw[e];exact v.alone m
theorem WaU {b:Bk}{l:List Int}:l∈oddF b (2 ^ b.cks.length)↔∃ m,m<2 ^ b.cks.length∧Zc9 (Ze9 b m)=false∧Zej b m=l:=by
 rw[oddF,List.mem_map]
 constructor
 ·rintro⟨m,hm,e⟩
  obtain⟨h1,h2⟩:=List.mem_filter.1 hm
  exact⟨m,List.mem_range.1 h1,by simpa using h2,e⟩
 ·rintro⟨m,h1,h2,e⟩
  exact⟨m,List.mem_filter.2 ⟨List.mem_range.2 h1,by simp[h2]⟩,e⟩
theorem Wae {b:Bk}(h:Zc9 b=false):Asc b.cks.length (ZmQ b)∧Zc9 (Wag b (ZmQ b))=false∧∀ l,Asc b.cks.length l->Zc9 (Wag b l)=false->¬ fewF l (ZmQ b)=true:=by
 have hne:oddF b (2 ^ b.cks.length)≠[]:=fun e=>by have:=odd_pos h;rw[e]at this;simp at this
 obtain⟨h1,h2⟩:=best_few hne
 obtain⟨m,hm,h3,e⟩:=WaU.1 h1
 have e:Zej b m=ZmQ b:=e
 refine⟨by rw[<-e];exact WaK _ _,by rw[<-e,Waw];exact h3,fun l hl hs=>?_⟩
 obtain⟨m',hm',e',e2⟩:=WaN hl
 exact h2 l (WaU.2 ⟨m',hm',by rw[<-e2];exact hs,e'⟩)
theorem WaX {b:Bk}(v:Zeo b):∃ x,x∈WaP b:=by
 refine⟨⟨N4.of fun j=>if j<b.pts.length then (ptAt b j).ml else 0,0,0⟩,(cand_iff v).2 ⟨fun j hj=>?_,fun j h1 h2=>?_,(WaS v).2 (.inl rfl)⟩⟩
 ·have h4:j<4:=by have:=v.n;omega
  show _<=(N4.of _).get j∧(N4.of _).get j<=_
  rw[N4.of_get _ h4,if_pos hj]
  have:=v.pts j hj
  rw[show b.pts[j]=ptAt b j from (Zbd hj _).symm]at this
  omega
 ·show (N4.of _).get j=0
  rw[N4.of_get _ h2,if_neg (by omega)]
theorem clash_ne {b:Bk}(v:Zeo b)(h:Zc9 b=false):ZmQ b≠[]:=by
 intro e
 obtain⟨h1,h2,_⟩:=Wae h
 have v':=Wac v h1
 rw[e]at h2 v'
 obtain⟨x,hx⟩:=WaX v'
 have:x∈Zae (Wag b []):=(WaY v').2 ⟨hx,rfl⟩
 have:=Wad.2 (List.length_pos_of_mem this)
 rw[h2]at this;simp at this
theorem Way {b:Bk}(h:Zc9 b=false){i:Nat}(hi:i<(ZmQ b).length):Asc b.cks.length ((ZmQ b).take i++(ZmQ b).drop (i+1))∧Zc9 (Wag b ((ZmQ b).take i++(ZmQ b).drop (i+1)))=true:=by
 obtain⟨h1,h2,h3⟩:=Wae h
 have hA:Asc b.cks.length ((ZmQ b).take i++(ZmQ b).drop (i+1)):=by
  rw[<-List.eraseIdx_eq_take_drop_succ]
  exact⟨h1.1.sublist (List.eraseIdx_sublist ..),fun z hz=>h1.2 z ((List.eraseIdx_sublist ..).subset hz)⟩
 refine⟨hA,?_⟩
 cases hs:Zc9 (Wag b ((ZmQ b).take i++(ZmQ b).drop (i+1))) with
 | true=>rfl
 | false=>
  exfalso
  refine h3 _ hA hs (Waj.2 (.inl ?_))
  rw[List.length_append,List.length_take,List.length_drop];omega
end Go.Proofs
end
