/- proofs about Leango given: part As0; made by a program out of the longer texts in wip -/
import Derived.Test.YtamdhefhhdgjbaaGreatDoorP44
set_option linter.all false
section
namespace Go.LL
section
variable  {P:Prg}{d:Option Nat}{next:NSt->Hp->Prop}{σ:NSt}{H:Hp}{x y z:Operand}{v:Value}{ty:TypeId}
theorem om_rem {k:IntKind}{m n:Int}{t t2:TypeId}(e1:σ.get x=some (.int k m))(e2:σ.get y=some (.int k n))(hn:n≠0)(h:next (σ.set d (.int k (m.tmod n))) H):(NOp.pur (.binOp .rem t x y t2) ty).m P d next σ H:=by
 refine Zcb (by simp[Op.operands,e1,e2]) ?_ h
 have:execOp (fun x=>(σ.get x).getD undef) (bare (.binOp .rem t x y t2) ty)=pure (.value (.int k (m.tmod n))):=by simp[execOp,bare,e1,e2,eqGuard,binOp,Op.intDiv,hn]
 rw[this]
 exact fun Q g H hq=>hq
end
end Go.LL
end
section
open Go Go.LL Go.Z
namespace Go.Proofs
def n72:Zai:=(sq [o 2 (.lbox 2 [2,34] (t 0)),mi 4 0,m0 5] (sq [l 13 2 4 2,o 6 (.lzero 6 [6,46] [z0,z0,s0,s0]),ls 6 4 6 13] (sq [l 15 2 4 2,m 16 1,c2 17 29 15 16,m 14 17,x 18 14 0,x 19 14 1,m 7 18,m 8 19] (.seq (sq [m 20 8,bk 21 .neq 20 0,m 22 21,mf 22 23 7,gf 22 24 (.len (t 23)),gf 22 25 (.bin .gtr (t 24) (k 50)),po 26 22 25] (.cond (t 26) (sq [mi 4 0,m0 5] .ret) .skip)) (sq [mi 9 0] (.seq (sq [mi 10 0] (.block 0 (.loop (.seq (sq [m 27 10,m 28 7,le 29 28,b 30 .lss 27 29] (.cond (t 30) .skip (.exit 0))) (.seq (.block 1 (.seq (.drawn [(f 34 3 2,none),(ln 35 2 34,none),(m 37 1,none),(m 38 7,none),(m 39 10,none),(ia 40 1 38 39,none),(ld 41 40,none),(o 33 (.raw (.buildSlice 23 0 #[]) 23),(some true)),(o 36 (.raw (.call (.mk (.builtin .append) #[(t 33),(t 35)] #[23,23])) 23),(some true)),(c1 42 49 41,(some false)),(o 43 (.build [z0,z0,z0] [(0,(1,(t 37))),(1,(2,(t 42)))]),none),(o 44 (.buildS 51 1 [z0,z0,z0] [(0,(3,(t 43)))]),none),(o 45 (.raw (.call (.mk (.builtin .append) #[(t 36),(t 44)] #[23,23])) 23),none),(f 46 3 6,none),(ls 6 1 46 45,none)]) (sq [l 48 6 4 6,c1 49 19 48,m 47 49,x 50 47 0,x 51 47 1,m 11 50,m 12 51] (.seq (sq [m 52 12,bk 53 .neq 52 0] (.cond (t 53) (sq [mi 4 0,m0 5] .ret) .skip)) (.ops [m 54 9,m 55 11,o 56 (.pur (.call (.mk (.builtin .max) #[(t 54),(t 55)] #[3,3])) 3),m 9 56]))))) (.ops [m 31 10,bk 32 .add 31 1,m 10 32])))))) (sq [m 57 9,m 4 57,m1 5] .ret)))))))
def r72:List NRes:=[(.slot 4),(.slot 5)]
theorem c72:IsN Tryz.prog 72 2 n72 r72:=isq [(2,2),(6,6),(34,2),(46,6)] Tryz.func72
end Go.Proofs
end
section
open Go Go.LL
namespace Go.Proofs
theorem ui4:Tryz.prog.underlying 4=some .bool:=by kernel_rfl
section
variable  {P:Prg}[Tz P]{H:Hp}{g:Bool}{d:Nat}
end
end Go.Proofs
end
section
open Go Go.LL
namespace Go.Proofs
section
variable  {P:Prg}[Tz P]{H:Hp}{d:Option Nat}{next:NSt->Hp->Prop}{σ:NSt}{x y:Operand}{ty t2:TypeId}{v:Value}
theorem eq4_w' {a b:Bool}(d:Nat)(Q:Bool->Bool->Hp->Prop)(g:Bool)(H:Hp)(hq:Q (a == b) g H):wpL P.toPQ (Op.equalIn (d+1) 4 (vb a) (vb b)) Q g H:=by
 simp only[Op.equalIn,Zaa,Zad (und (P:=P) ui4),Zac]
 exact hq
theorem eq4_w {a b:Bool}(Q:Bool->Bool->Hp->Prop)(g:Bool)(H:Hp)(hq:Q (a == b) g H):wpL P.toPQ (Op.equalIn (9999+1) 4 (vb a) (vb b)) Q g H:=eq4_w' 9999 Q g H hq
theorem om_neb {a b:Bool}(e1:σ.get x=some (vb a))(e2:σ.get y=some (vb b))(h:next (σ.set d (vb (a != b))) H):(NOp.pur (.binOp .neq 4 x y t2) ty).m P d next σ H:=by
 refine Zcb (by simp[Op.operands,e1,e2]) ?_ h
 have:execOp (fun x=>(σ.get x).getD undef) (bare (.binOp .neq 4 x y t2) ty)=(do let v <-(do eqGuard .neq 4 x y (vb a) (vb b);binOp .neq 4 (vb a) (vb b));pure (.value v)):=by simp[execOp,bare,e1,e2]
 rw[this]
 refine Zgz fun Q g H hq=>?_
 simp only[eqGuard,Zaa,Zac]
 exact Zaa.2 (eq4_w _ _ _ hq)
end
end Go.Proofs
end
section
open Go Go.LL Go.Z
namespace Go.Proofs
def n12:Zai:=(sq [o 2 (.lbox 2 [2,17,59,85] (t 0)),m0 4] (.seq (sq [l 13 2 4 2,c1 14 48 13,o 15 (.not (t 14)),m 16 15,gf 16 17 (.lfadr 3 2),gf 16 18 (.lld 2 none 17),gf 16 19 (.len (t 18)),gf 16 20 (.bin .geq (t 19) (k 3)),po 21 16 20] (.cond (t 21) (sq [c0 22 18,m 4 22] .ret) .skip)) (sq [l 24 2 4 2,c1 25 39 24,m 23 25,x 26 23 0,x 27 23 1,x 28 23 2,m 5 26,m 6 27,m 7 28] (sq [l 30 2 4 2,c1 31 19 30,m 29 31,x 32 29 0,x 33 29 1,m 8 32,m 9 33] (.seq (sq [m 34 9,bk 35 .neq 34 0,m 36 35,mf 36 37 7,gf 36 38 (.bin .eql (t 37) (k 0)),mf 36 39 8,gf 36 40 (.bin .gtr (t 39) (k 0)),gf 36 41 (.pur (.binOp .neq 4 (t 38) (t 40) 4) 4),po 42 36 41] (.cond (t 42) (sq [m0 4] .ret) .skip)) (.seq (sq [m 43 7,bk 44 .neq 43 0] (.cond (t 44) (sq [m 45 7,bk 46 .eql 45 9,m 47 46,mt 47 48 5,gt 47 49 (.bin .eql (t 48) (k 0)),pa 50 47 49,m 51 50,mt 51 52 6,gt 51 53 (.bin .eql (t 52) (k 0)),pa 54 51 53,m 55 54,gt 55 56 (.call 18 []),pa 57 55 56,m 4 57] .ret) .skip)) (.seq (sq [m 58 5,f 59 2 2,ln 60 2 59,le 61 60,bk 62 .sub 61 1,o 63 (.call 53 [(t 58),(.const (.int .i64 (Int.negSucc 0))),(t 62)]),o 64 (.not (t 63)),m 65 64,mf 65 66 5,gf 65 67 (.bin .lss (t 66) (k 0)),mf 65 68 67,mt 68 69 6,mt 68 70 8,gt 68 71 (.bin .neq (t 69) (t 70)),gf 65 72 (.pick (t 68) (t 71) k0),po 73 65 72,m 74 73,mf 74 75 5,gf 74 76 (.bin .geq (t 75) (k 0)),mf 74 77 76,mt 77 78 6,mt 77 79 8,gt 77 80 (.bin .geq (t 78) (t 79)),gf 74 81 (.pick (t 77) (t 80) k0),po 82 74 81] (.cond (t 82) (sq [m0 4] .ret) .skip)) (sq [m 83 1,o 84 (.pur (.convert 5 3 (t 83)) 3),f 85 2 2,ln 86 2 85,le 87 86,o 88 (.pur (.binOp .rem 3 (t 84) (t 87) 3) 3),m 10 88] (sq [l 90 2 4 2,m 91 10,c2 92 72 90 91,m 89 92,x 93 89 0,x 94 89 1,m 11 93,m 12 94] (.seq (sq [m 95 12,o 96 (.not (t 95)),m 97 96,mf 97 98 11,mf 97 99 6,gf 97 100 (.bin .lss (t 98) (t 99)),po 101 97 100,m 102 101,mf 102 103 11,mf 102 104 6,gf 102 105 (.bin .eql (t 103) (t 104)),mf 102 106 105,mt 106 107 5,gt 106 108 (.bin .geq (t 107) (k 0)),gf 102 109 (.pick (t 106) (t 108) k0),mf 102 110 109,mt 110 111 10,mt 110 112 5,gt 110 113 (.bin .lss (t 111) (t 112)),gf 102 114 (.pick (t 110) (t 113) k0),po 115 102 114] (.cond (t 115) (sq [m0 4] .ret) .skip)) (.seq (sq [m 116 5,bk 117 .geq 116 0] (.cond (t 117) (.ops [l 119 2 4 2,m 120 5,c2 121 72 119 120,m 118 121,x 122 118 0,x 123 118 1,m 11 122,m 12 123]) .skip)) (sq [m 124 12,m 125 124,mt 125 126 5,gt 125 127 (.bin .lss (t 126) (k 0)),mt 125 128 127,mf 128 129 11,mf 128 130 6,gf 128 131 (.bin .eql (t 129) (t 130)),gt 125 132 (.pick (t 128) k1 (t 131)),pa 133 125 132,m 134 133,gt 134 135 (.call 18 []),pa 136 134 135,m 4 136] .ret))))))))))))
def r12:List NRes:=[(.slot 4)]
theorem c12:IsN Tryz.prog 12 2 n12 r12:=isq [(2,2),(17,2),(59,2),(85,2)] Tryz.func12
end Go.Proofs
end
section
open Go Go.LL
namespace Go.Proofs
def Waf (b:Bk)(i:Nat):List Int:=(List.range ((ptAt b i).mh-(ptAt b i).ml+1).toNat).map fun (t:Nat)=>(ptAt b i).ml+t
def mkL (b:Bk):Nat->List (List Int)
 | 0=>[[]]
 | i+1=>(mkL b i).flatMap fun l=>(Waf b i).map fun n=>l++[n]
theorem mk_mem {b:Bk}(v:Zeo b):∀ i,i<=b.pts.length->∀ l∈mkL b i,l.length=i∧∀ x∈l,0<=x∧x<=99
 | 0,_,l,hl=>by
  rw[mkL,List.mem_singleton]at hl
  subst hl;simp
 | i+1,hi,l,hl=>by
  rw[mkL,List.mem_flatMap]at hl
  obtain⟨m,hm,hl⟩:=hl
  obtain⟨n,hn,rfl⟩:=List.mem_map.1 hl
  obtain⟨h1,h2⟩:=mk_mem v i (by omega) m hm
  refine⟨by simp[h1],fun x hx=>?_⟩
  rcases List.mem_append.1 hx with hx | hx
  ·exact h2 x hx
  ·rw[List.mem_singleton.1 hx]
   rw[Waf,List.mem_map]at hn
   obtain⟨t,ht,rfl⟩:=hn
   rw[List.mem_range]at ht
   rw[show ptAt b i=b.pts[i] from Zbd (by omega) _]at ht ⊢
   have:=v.pts i (by omega)
   omega
section
variable  {P:Prg}[Tz P][Loud P]{H:Hp}
set_option maxHeartbeats 4000000
set_option maxRecDepth 20000
end
end Go.Proofs
end
section
open Go Go.LL
namespace Go.Proofs
def bodyF (b:Bk)(l:List Int)(ks:List Slip):List Boat:=(ks.map fun k=>(⟨n4of l,k.bf,k.by_⟩:Boat)).filter (ZgQ b)
def Way (hi:Int):Nat->List Int
 | 0=>[]
 | c+1=>(hi-c) :: Way hi c
theorem Wam (f:Int->List Boat)(hi:Int):∀ c,spanR f hi c=(Way hi c).flatMap f
 | 0=>rfl
 | c+1=>by rw[spanR,Way,List.flatMap_cons,Wam f hi c]
theorem Wax {hi:Int}:∀ {c:Nat},(Way hi c).length=c∧∀ t,t<c->(Way hi c)[t]? = some (hi-(c-1-t:Nat))
 | 0=>⟨rfl,fun t h=>by omega⟩
 | c+1=>by
  obtain⟨h1,h2⟩:=@Wax hi c
  refine⟨by rw[Way,List.length_cons,h1],fun t ht=>?_⟩
  rw[Way]
  cases t with
  | zero=>simp
  | succ t=>rw[List.getElem?_cons_succ,h2 t (by omega)];congr 2;omega
theorem spanL_eq {b:Bk}{i:Nat}:Way (ptAt b i).mh ((ptAt b i).mh-(ptAt b i).ml+1).toNat=Waf b i:=by
 obtain⟨h1,h2⟩:=@Wax (ptAt b i).mh ((ptAt b i).mh-(ptAt b i).ml+1).toNat
 have hl:(Waf b i).length=((ptAt b i).mh-(ptAt b i).ml+1).toNat:=by simp[Waf]
 refine List.ext_getElem? fun t=>?_
 by_cases ht:t<((ptAt b i).mh-(ptAt b i).ml+1).toNat
 ·rw[h2 t ht,Waf,List.getElem?_map,List.getElem?_range ht]
  show some ((ptAt b i).mh-((((ptAt b i).mh-(ptAt b i).ml+1).toNat-1-t:Nat):Int))=some ((ptAt b i).ml+(t:Int))
  congr 1;omega
 ·rw[List.getElem?_eq_none (by omega),List.getElem?_eq_none (by omega)]
def lvN (b:Bk):Nat->List N4
 | 0=>[⟨0,0,0,0⟩]
 | i+1=>(lvN b i).flatMap fun m=>(Waf b i).map fun n=>m.put i n
theorem Wah {α β γ:Type}(l:List α)(f:α->List β)(g:β->List γ):(l.flatMap f).flatMap g=l.flatMap fun a=>(f a).flatMap g:=by
 induction l with
 | nil=>rfl
 | cons a l ih=>simp[List.flatMap_cons,List.flatMap_append,ih]
theorem Waa {α β γ:Type}(l:List α)(f:α->β)(g:β->List γ):(l.map f).flatMap g=l.flatMap fun a=>g (f a):=by
 induction l with
 | nil=>rfl
 | cons a l ih=>simp[List.flatMap_cons,ih]
theorem Wal {α β:Type}{l:List α}{f g:α->List β}(h:∀ a∈l,f a=g a):l.flatMap f=l.flatMap g:=by
 induction l with
 | nil=>rfl
 | cons a l ih=>rw[List.flatMap_cons,List.flatMap_cons,h a (List.mem_cons_self ..),ih fun x hx=>h x (List.mem_cons_of_mem _ hx)]
theorem lv_step {b:Bk}{r i:Nat}(h:b.pts.length=i+(r+1)):(lvN b (i+1)).flatMap (boatsFrom b r)=(lvN b i).flatMap (boatsFrom b (r+1)):=by
 rw[lvN,Wah]
 congr 1
 funext m
 rw[Waa,boatsFrom,Wam]
 have e:b.pts.length-(r+1)=i:=by omega
 rw[e,spanL_eq]
theorem lv_all {b:Bk}:∀ (r i:Nat),b.pts.length=i+r->(lvN b i).flatMap (boatsFrom b r)=(lvN b b.pts.length).flatMap (boatsFrom b 0)
 | 0,i,h=>by rw[h,Nat.add_zero]
 | r+1,i,h=>by rw[<-lv_step h];exact lv_all r (i+1) (by omega)
theorem boats_lv (b:Bk):Zae b=(lvN b b.pts.length).flatMap (boatsFrom b 0):=by
 rw[<-lv_all b.pts.length 0 (by omega)]
 simp[lvN,Zae]
theorem Wac {l:List Int}{j:Nat}(hj:j<4):(n4of l).get j=l.getD j 0:=N4.of_get _ hj
theorem lv_mk {b:Bk}(v:Zeo b):∀ i,i<=b.pts.length->lvN b i=(mkL b i).map n4of
 | 0,_=>rfl
 | i+1,hi=>by
  have hi4:i<4:=by have:=v.n;omega
  rw[lvN,lv_mk v i (by omega),mkL,Waa,List.map_flatMap]
  refine Wal fun l hl=>?_
  rw[List.map_map]
  refine List.map_congr_left fun n _=>?_
  obtain⟨h1,_⟩:=mk_mem v i (by omega) l hl
  refine N4.ext' fun j hj=>?_
  rw[N4.put_get _ _ hj,Wac hj]
  show _=(n4of (l++[n])).get j
  rw[Wac hj]
  simp only[List.getD_eq_getElem?_getD]
  by_cases e:j=i
  ·subst e
   rw[if_pos rfl,List.getElem?_append_right (by omega),h1]
   simp
  ·rw[if_neg e]
   by_cases e2:j<i
   ·rw[List.getElem?_append_left (by omega)]
   ·rw[List.getElem?_eq_none (by omega),List.getElem?_eq_none (by rw[List.length_append,List.length_singleton];omega)]
theorem WaK {b:Bk}(v:Zeo b):Zae b=(mkL b b.pts.length).flatMap fun l=>bodyF b l (ZaC b):=by
 rw[boats_lv,lv_mk v _ (Nat.le_refl _),Waa]
 rfl
section
variable  {P:Prg}[Tz P][Loud P]{H:Hp}
set_option maxHeartbeats 4000000
set_option maxRecDepth 20000
end
end Go.Proofs
end
section
open Go Go.LL
namespace Go.Proofs
def insD (x:Int):List Int->List Int
 | []=>[x]
 | y :: r=>if y<x then y :: insD x r else if y=x then y :: r else x :: y :: r
def ordF (l:List Int):List Int:=l.foldl (fun o x=>insD x o) []
section
variable  {P:Prg}[Tz P][Loud P]{H:Hp}
set_option maxHeartbeats 4000000
set_option maxRecDepth 20000
end
end Go.Proofs
end
section
open Go Go.LL
namespace Go.Proofs
theorem Waw:∀ {l m:List Int},l.Pairwise (·<·)->m.Pairwise (·<·)->(∀ x,x∈l↔x∈m)->l=m
 | [],[],_,_,_=>rfl
 | [],y :: m,_,_,h=>by have:=(h y).2 (List.mem_cons_self ..);simp at this
 | x :: l,[],_,_,h=>by have:=(h x).1 (List.mem_cons_self ..);simp at this
 | x :: l,y :: m,hl,hm,h=>by
  obtain⟨l1,l2⟩:=List.pairwise_cons.1 hl
  obtain⟨m1,m2⟩:=List.pairwise_cons.1 hm
  have exy:x=y:=by
   have h1:=(h x).1 (List.mem_cons_self ..)
   have h2:=(h y).2 (List.mem_cons_self ..)
   rcases List.mem_cons.1 h1 with rfl | h1
   ·rfl
   ·rcases List.mem_cons.1 h2 with rfl | h2
    ·rfl
    ·have:=l1 y h2;have:=m1 x h1;omega
  subst exy
  congr 1
  refine Waw l2 m2 fun z=>⟨fun hz=>?_,fun hz=>?_⟩
  ·rcases List.mem_cons.1 ((h z).1 (List.mem_cons_of_mem _ hz)) with rfl | hz'
   ·have:=l1 z hz;omega
   ·exact hz'
  ·rcases List.mem_cons.1 ((h z).2 (List.mem_cons_of_mem _ hz)) with rfl | hz'
   ·have:=m1 z hz;omega
   ·exact hz'
theorem Wau (x:Int):∀ (l:List Int) (z:Int),z∈insD x l↔z=x∨z∈l
 | [],z=>by simp[insD]
 | y :: r,z=>by
  rw[insD]
  have ih:=Wau x r z
  split
  ·rw[List.mem_cons,ih,List.mem_cons]
   constructor
   ·rintro(h | h | h)
    ·exact .inr (.inl h)
    ·exact .inl h
    ·exact .inr (.inr h)
   ·rintro(h | h | h)
    ·exact .inr (.inl h)
    ·exact .inl h
    ·exact .inr (.inr h)
  ·split
   ·rename_i h;subst h;rw[List.mem_cons]
    constructor
    ·exact .inr
    ·rintro(h | h)
     ·exact .inl h
     ·exact h
   ·rw[List.mem_cons]
theorem WaU (x:Int):∀ {l:List Int},l.Pairwise (·<·)->(insD x l).Pairwise (·<·)
 | [],_=>by simp[insD]
 | y :: r,h=>by
  obtain⟨h1,h2⟩:=List.pairwise_cons.1 h
  rw[insD]
  split
  ·rename_i hy
   refine List.pairwise_cons.2 ⟨fun z hz=>?_,WaU x h2⟩
   rcases(Wau x r z).1 hz with rfl | hz
   ·exact hy
   ·exact h1 z hz
  ·split
   ·exact h
   ·refine List.pairwise_cons.2 ⟨fun z hz=>?_,h⟩
    rcases List.mem_cons.1 hz with rfl | hz
    ·omega
    ·have:=h1 z hz;omega
theorem Wat:∀ l:List Int,(ordF l).Pairwise (·<·)∧∀ z,z∈ordF l↔z∈l:=by
 refine Zfm ⟨.nil,fun z=>Iff.rfl⟩ fun l x ih=>?_
 have e:ordF (l++[x])=insD x (ordF l):=by rw[ordF,List.foldl_append];rfl
 rw[e]
 refine⟨WaU x ih.1,fun z=>?_⟩
 rw[Wau,ih.2 z,List.mem_append,List.mem_singleton]
 exact Or.comm
theorem WaJ {l:List Int}(h:l.Pairwise (·<=·)):∀ n,n<=l.length->(cmpP l n).Pairwise (·<·)∧(∀ z,z∈cmpP l n↔z∈l.take n)∧(∀ z∈cmpP l n,z<=el l (n-1))
 | 0,_=>⟨.nil,fun z=>by simp[cmpP],fun z hz=>by simp[cmpP]at hz⟩
 | n+1,hn=>by
  obtain⟨h1,h2,h3⟩:=WaJ h n (by omega)
  have hmono:∀ i j,i<=j->j<l.length->el l i<=el l j:=by
   intro i j hij hj
   rw[Zhf (by omega),Zhf hj]
   rcases Nat.lt_or_ge i j with h' | h'
   ·exact List.pairwise_iff_getElem.1 h i j (by omega) hj h'
   ·have:i=j:=by omega
    subst this;exact Int.le_refl _
  rw[Zi7 (by omega)]
  by_cases h0:n=0
  ·subst h0
   rw[cmp_one]
   exact⟨List.pairwise_singleton _ _,fun z=>by simp,fun z hz=>by rw[List.mem_singleton.1 hz];exact Int.le_refl _⟩
  ·by_cases he:el l n=el l (n-1)
   ·rw[cmp_eq h0 he]
    refine⟨h1,fun z=>?_,fun z hz=>?_⟩
    ·rw[h2,List.mem_append,List.mem_singleton]
     constructor
     ·exact .inl
     ·rintro(hz | rfl)
      ·exact hz
      ·rw[he]
       have e2:n=(n-1)+1:=by omega
       rw[e2,Zi7 (by omega)]
       simp
    ·have:=h3 z hz;rw[Nat.add_sub_cancel,he];exact this
   ·rw[cmp_ne he]
    refine⟨?_,fun z=>?_,fun z hz=>?_⟩
    ·rw[List.pairwise_append]
     refine⟨h1,List.pairwise_singleton _ _,fun a ha c hc=>?_⟩
     rw[List.mem_singleton.1 hc]
     have g1:=h3 a ha
     have g2:=hmono (n-1) n (by omega) (by omega)
     omega
    ·rw[List.mem_append,h2,List.mem_append]
    ·rw[Nat.add_sub_cancel]
     rcases List.mem_append.1 hz with hz | hz
     ·have g1:=h3 z hz
      have g2:=hmono (n-1) n (by omega) (by omega)
      omega
     ·rw[List.mem_singleton.1 hz];exact Int.le_refl _
theorem cmp_ord {l m:List Int}(h:l.Pairwise (·<=·))(hm:∀ z,z∈l↔z∈m):cmpF l=ordF m:=by
 obtain⟨h1,h2,_⟩:=WaJ h l.length (Nat.le_refl _)
 obtain⟨h3,h4⟩:=Wat m
 exact Waw h1 h3 fun z=>by rw[cmpF,h2,h4,List.take_length];exact hm z
theorem WaY {b:Bk}(v:Zeo b){x:Boat}(h:x∈Zae b):(⟨x.bf,x.by_⟩:Slip)∈ZaC b:=by
 rw[WaK v]at h
 obtain⟨l,_,h⟩:=List.mem_flatMap.1 h
 obtain⟨k,hk,rfl⟩:=List.mem_map.1 (List.mem_filter.1 h).1
 exact hk
theorem gap_eq {b:Bk}{p:Nat}{m:List Int}(hm:m=(Zae b).map fun x=>(Zas b x).get p):gapL b p=ordF m:=by
 rw[gapL]
 exact cmp_ord (srt_le _) fun z=>by rw[(Zfk _).mem_iff,hm]
end Go.Proofs
end
section
open Go Go.LL
namespace Go.Proofs
theorem WaP {α:Type}[Enc α]{H0 H:Hp}{E:TypeId}{v:Value}{l:List α}{b:Option Nat}(h:Own H0 H E v l b):∃ A c,v=.slice A l.length c:=by
 obtain⟨A,c,h1,_⟩:=h.sl
 exact⟨A,c,h1⟩
section
variable  {P:Prg}[Tz P][Loud P]{H:Hp}
set_option maxHeartbeats 8000000
set_option maxRecDepth 40000
end
end Go.Proofs
end
section
open Go Go.LL Go.Conc Go.ConcM
namespace Go.Proofs
open YtamdhefhhdgjbaaGreatDoor Go.ChangeShapes Go.WideShapes
section
set_option maxRecDepth 100000
variable  {H:Type}{enc:TypeId×Value->H}{W:World}{base:Nat}{sp:Nat->Bool}{held:Bool}{fuel:Nat}{cs:List Value}{y:DataW H×List MemPlace}{r:Reach}{b0:Nat}{v:Value}{d:DataW H}{ps:List MemPlace}
theorem u8_open (hval:Value.okWide Tryz.prog W r b0 5 v)(hd:DataW.Trod enc Tryz.prog W base sp held 5 v d ps):∃ n,v=.int .u8 n∧0<=n∧n<256:=by
 obtain⟨n,rfl,_,_,hw⟩:=open_int Tryz.underlying5 hval hd
 simp only[Lit.wf,Bool.and_eq_true,decide_eq_true_eq]at hw
 have h1:IntKind.u8.min=0:=rfl
 have h2:IntKind.u8.max=255:=rfl
 exact⟨n,rfl,by omega,by omega⟩
end
end Go.Proofs
end
section
open Go Go.LL Go.Conc Go.ConcM
namespace Go.Proofs.YtamdhefhhdgjbaaGreatDoor
theorem War:Tryz.pinned.checked.prog.funcNamed Rows.spileAskedRow.func=some 12:=by kernel_rfl
theorem Waq:joinedFacts Tryz.pinned.checked.prog 12 Tryz.f12 Rows.spileAskedSpec Rows.spileAskedRow=true:=by kernel_rfl
theorem Wap:Tryz.f12.isInstance Tryz.pinned.checked.prog Rows.spileAskedRow.origin Rows.spileAskedRow.targs:=of_decide_eq_true (by kernel_rfl)
theorem Wao:Tryz.f12.isWrapper Tryz.pinned.checked.prog Rows.spileAskedRow.wrapper Rows.spileAskedRow.mainSum:=by unfold Func.isWrapper;first | (rw[if_pos (by decide +kernel)];kernel_rfl) | (rw[if_neg (by decide +kernel)];exact⟨rfl,rfl⟩)
end Go.Proofs.YtamdhefhhdgjbaaGreatDoor
end
section
open Go Go.LL
namespace Go.Proofs
theorem Waz {b:Bk}{i:Nat}{n:Int}:n∈Waf b i↔(ptAt b i).ml<=n∧n<=(ptAt b i).mh:=by
 rw[Waf,List.mem_map]
 constructor
 ·rintro⟨t,ht,rfl⟩
  rw[List.mem_range]at ht
  omega
 ·rintro⟨h1,h2⟩
  exact⟨(n-(ptAt b i).ml).toNat,by rw[List.mem_range];omega,by omega⟩
theorem getD_app {l:List Int}{n:Int}{j:Nat}:(l++[n]).getD j 0=if j<l.length then l.getD j 0 else if j=l.length then n else 0:=by
 simp only[List.getD_eq_getElem?_getD]
 by_cases h:j<l.length
 ·rw[if_pos h,List.getElem?_append_left h]
 ·rw[if_neg h,List.getElem?_append_right (by omega)]
  by_cases h2:j=l.length
  ·subst h2;simp
  ·rw[if_neg h2,List.getElem?_eq_none (by simp;omega)];rfl
theorem WaE {l:List Int}{i j:Nat}(h:j<i):(l.take i).getD j 0=l.getD j 0:=by
 simp only[List.getD_eq_getElem?_getD,List.getElem?_take_of_lt h]
theorem WaI {b:Bk}:∀ {i:Nat} {l:List Int},l∈mkL b i↔l.length=i∧∀ j,j<i->(ptAt b j).ml<=l.getD j 0∧l.getD j 0<=(ptAt b j).mh
 | 0,l=>by
  rw[mkL,List.mem_singleton]
  constructor
  ·rintro rfl;exact⟨rfl,fun j h=>by omega⟩
  ·rintro⟨h,_⟩;exact List.length_eq_zero_iff.1 h
 | i+1,l=>by
  rw[mkL,List.mem_flatMap]
  constructor
  ·rintro⟨m,hm,hl⟩
   obtain⟨n,hn,rfl⟩:=List.mem_map.1 hl
   obtain⟨h1,h2⟩:=WaI.1 hm
   refine⟨by simp[h1],fun j hj=>?_⟩
   rw[getD_app]
   by_cases e:j<i
   ·rw[if_pos (by omega)];exact h2 j e
   ·rw[if_neg (by omega),if_pos (by omega)]
    obtain rfl:j=i:=by omega
    exact Waz.1 hn
  ·rintro⟨h1,h2⟩
   refine⟨l.take i,WaI.2 ⟨by rw[List.length_take];omega,fun j hj=>?_⟩,List.mem_map.2 ⟨l.getD i 0,Waz.2 (h2 i (by omega)),?_⟩⟩
   ·rw[WaE hj];exact h2 j (by omega)
   ·have:=Zi7 (l:=l) (n:=i) (by omega)
    rw[<-h1,List.take_length]at this
    exact this.symm
theorem WaD {bf:Int}{sl:Nat}{k:Slip}:∀ {r:Nat},k∈innerR bf sl r↔k.bf=bf∧(sl:Int)-r<k.by_∧k.by_<=sl∧k.by_≠0
 | 0=>by rw[innerR];simp;omega
 | r+1=>by
  have ih:=@WaD bf sl k r
  rw[innerR]
  split
  ·rw[ih];constructor
   ·rintro⟨h1,h2,h3,h4⟩;exact⟨h1,by omega,h3,h4⟩
   ·rintro⟨h1,h2,h3,h4⟩;exact⟨h1,by omega,h3,h4⟩
  ·rw[List.mem_cons,ih]
   obtain⟨kf,ky⟩:=k
   simp only[Slip.mk.injEq]
   omega
theorem WaA {n sl:Nat}{k:Slip}:∀ {r:Nat},r+1<=n->(k∈outerR n sl r↔((n:Int)-r<=k.bf∧k.bf<n)∧-(sl:Int)<=k.by_∧k.by_<=sl∧k.by_≠0)
 | 0,_=>by rw[outerR];simp;omega
 | r+1,h=>by
  rw[outerR,List.mem_append,WaD,WaA (by omega)]
  omega
theorem WaO {b:Bk}(v:Zeo b){k:Slip}:k∈ZaC b↔k=⟨0,0⟩∨((1<=k.bf∧k.bf<b.pts.length)∧-b.sl<=k.by_∧k.by_<=b.sl∧k.by_≠0):=by
 have:=v.sl
 have:=v.n
 rw[ZaC,List.mem_cons,WaA (by omega)]
 have e:((b.sl.toNat:Nat):Int)=b.sl:=by omega
 have e2:((b.pts.length-1:Nat):Int)=b.pts.length-1:=by omega
 rw[e,e2]
 refine or_congr Iff.rfl ?_
 omega
def Wav (b:Bk):List Boat:=(mkL b b.pts.length).flatMap fun l=>(ZaC b).map fun k=>(⟨n4of l,k.bf,k.by_⟩:Boat)
theorem Wak {α β:Type}(l:List α)(f:α->List β)(p:β->Bool):(l.flatMap f).filter p=l.flatMap fun a=>(f a).filter p:=by
 induction l with
 | nil=>rfl
 | cons a l ih=>simp[List.flatMap_cons,ih]
theorem Wag {b:Bk}(v:Zeo b):Zae b=(Wav b).filter (ZgQ b):=by
 rw[WaK v,Wav,Wak]
 rfl
theorem cand_iff {b:Bk}(v:Zeo b){x:Boat}:x∈Wav b↔(∀ j,j<b.pts.length->(ptAt b j).ml<=x.m.get j∧x.m.get j<=(ptAt b j).mh)∧(∀ j,b.pts.length<=j->j<4->x.m.get j=0)∧(⟨x.bf,x.by_⟩:Slip)∈ZaC b:=by
 have hn:=v.n
 rw[Wav,List.mem_flatMap]
 constructor
 ·rintro⟨l,hl,hx⟩
  obtain⟨k,hk,rfl⟩:=List.mem_map.1 hx
  obtain⟨h1,h2⟩:=WaI.1 hl
  refine⟨fun j hj=>?_,fun j hj h4=>?_,hk⟩
  ·show _<=(n4of l).get j∧(n4of l).get j<=_
   rw[Wac (by omega)];exact h2 j hj
  ·show (n4of l).get j=0
   rw[Wac h4,List.getD_eq_getElem?_getD,List.getElem?_eq_none (by omega)];rfl
 ·rintro⟨h1,h2,h3⟩
  have hL:∀ j,j<b.pts.length->(x.m.list.take b.pts.length).getD j 0=x.m.get j:=by
   intro j hj
   rw[WaE hj]
   match j,(by omega:j<4) with
   | 0,_=>rfl
   | 1,_=>rfl
   | 2,_=>rfl
   | 3,_=>rfl
  refine⟨x.m.list.take b.pts.length,WaI.2 ⟨by rw[List.length_take];show min _ 4=_;omega,fun j hj=>?_⟩,List.mem_map.2 ⟨⟨x.bf,x.by_⟩,h3,?_⟩⟩
  ·rw[hL j hj];exact h1 j hj
  ·have:n4of (x.m.list.take b.pts.length)=x.m:=by
    refine N4.ext' fun j h4=>?_
    rw[Wac h4]
    by_cases hj:j<b.pts.length
    ·exact hL j hj
    ·rw[h2 j (by omega) h4,List.getD_eq_getElem?_getD,List.getElem?_eq_none (by rw[List.length_take];omega)];rfl
   rw[this]
theorem WaX {b:Bk}(v:Zeo b){x:Boat}:x∈Zae b↔x∈Wav b∧ZgQ b x=true:=by
 rw[Wag v,List.mem_filter]
theorem Wab {α:Type}[DecidableEq α]:∀ {l m:List α},l.Nodup->(∀ x∈l,x∈m)->l.length<=m.length
 | [],_,_,_=>Nat.zero_le _
 | a :: l,m,hn,hs=>by
  obtain⟨h1,h2⟩:=List.nodup_cons.1 hn
  have ha:=hs a (List.mem_cons_self ..)
  have:=Wab (l:=l) (m:=m.erase a) h2 fun x hx=>(List.mem_erase_of_ne (by rintro rfl;exact h1 hx)).2 (hs x (List.mem_cons_of_mem _ hx))
  rw[List.length_erase_of_mem ha]at this
  have:=List.length_pos_of_mem ha
  rw[List.length_cons];omega
end Go.Proofs
end
section
open Go Go.LL
namespace Go.Proofs
section
variable  {P:Prg}[Tz P][Loud P]{H:Hp}
set_option maxHeartbeats 4000000
set_option maxRecDepth 20000
end
end Go.Proofs
end
section
open Go Go.LL
namespace Go.Proofs
end Go.Proofs
end
section
open Go Go.LL
namespace Go.Proofs
theorem ckS_of {n:Nat}:∀ {l:List SCk},(∀ c∈l,(0<=c.p∧c.p<n)∧(-199<=c.gl∧c.gl<=c.gh∧c.gh<=199))->ckS n l=0
 | [],_=>rfl
 | c :: l,h=>by
  have h1:=h c (List.mem_cons_self ..)
  rw[ckS,if_neg (by omega),if_neg (by omega)]
  exact ckS_of fun d hd=>h d (List.mem_cons_of_mem _ hd)
theorem WaN {b:Bk}(v:Zeo b):snag b=0:=by
 have h1:Zbj b=0:=by rw[Zbj,if_pos ⟨v.op,v.sl⟩]
 have h2:Zbk b=0:=by
  rw[Zbk,if_neg (by have:=v.n;omega),if_pos]
  rw[List.all_eq_true]
  intro p hp
  obtain⟨i,hi,rfl⟩:=List.mem_iff_getElem.1 hp
  obtain⟨a1,a2,a3,a4⟩:=v.pts i hi
  simp only[okP,Bool.and_eq_true,decide_eq_true_eq]
  exact⟨⟨⟨a1,a2⟩,a3⟩,a4⟩
 have h3:ckS b.pts.length b.cks=0:=ckS_of v.cks
 rw[snag,if_neg (by simp[h1]),if_neg (by simp[h2]),ZbJ,if_neg (by have:=v.ckn;omega),h3]
theorem open_eq {b:Bk}(v:Zeo b):Zah b true=if 0<(Zae b).length then 0 else 9:=by
 rw[Zah,if_neg (by simp[WaN v]),if_neg (by simp)]
 by_cases h:0<(Zae b).length
 ·rw[if_neg (by omega),if_pos h]
 ·rw[if_pos (by omega),if_neg h]
theorem there_eq {b:Bk}{i:Nat}(h:i<b.pts.length):decide (0<=(i:Int)∧(i:Int)<b.pts.length)=true:=decide_eq_true ⟨by omega,by omega⟩
theorem mk_pts {b b':Bk}(h:b.pts=b'.pts):∀ i,mkL b i=mkL b' i
 | 0=>rfl
 | i+1=>by
  have:Waf b i=Waf b' i:=by rw[Waf,Waf,ptAt,ptAt,h]
  rw[mkL,mkL,mk_pts h i,this]
theorem cand_pts {b b':Bk}(h:b.pts=b'.pts)(h2:b.sl=b'.sl):Wav b=Wav b':=by
 have:ZaC b=ZaC b':=by rw[ZaC,ZaC,h,h2]
 rw[Wav,Wav,mk_pts h,h,this]
theorem gaps_op {b b':Bk}(h:b.op=b'.op)(h2:b.pts.length=b'.pts.length)(x:Boat):Zas b x=Zas b' x:=by
 simp only[Zas,Zk9,h,h2]
theorem right_ck (b:Bk)(c:SCk)(x:Boat):ZgQ (ckBk b c) x=(ZgQ b x && ckOk (Zas b x) c):=by
 have e:Zas (ckBk b c) x=Zas b x:=gaps_op rfl rfl x
 rw[ZgQ,e]
 show (b.cks++[c]).all _=_
 rw[List.all_append,ZgQ]
 simp
theorem boats_ck {b:Bk}{c:SCk}(v:Zeo b)(v':Zeo (ckBk b c)):Zae (ckBk b c)=(Zae b).filter fun x=>ckOk (Zas b x) c:=by
 rw[Wag v',Wag v,List.filter_filter,cand_pts (b:=ckBk b c) (b':=b) rfl rfl]
 refine List.filter_congr fun x _=>?_
 rw[right_ck,Bool.and_comm]
theorem valid_ck {b:Bk}{c:SCk}(v:Zeo b)(h:b.cks.length<3)(h1:0<=c.p∧c.p<b.pts.length)(h2:-199<=c.gl∧c.gl<=c.gh∧c.gh<=199):Zeo (ckBk b c) where
 op:=v.op
 sl:=v.sl
 n:=v.n
 pts:=v.pts
 ckn:=by show (b.cks++[c]).length<=3;rw[List.length_append,List.length_singleton];omega
 cks:=fun d hd=>by
  rcases List.mem_append.1 (show d∈b.cks++[c] from hd) with hd | hd
  ·exact v.cks d hd
  ·rw[List.mem_singleton.1 hd];exact⟨h1,h2⟩
theorem ckOk_one {g:N4}{i:Nat}{k:Int}:ckOk g ⟨i,k,k⟩=decide (g.get i=k):=by
 rw[ckOk]
 refine decide_eq_decide.2 ?_
 show k<=g.get (i:Int).toNat∧g.get (i:Int).toNat<=k↔_
 rw[Int.toNat_natCast]
 omega
theorem Wai {b:Bk}{p:Nat}{z:Int}:z∈gapL b p↔∃ x∈Zae b,(Zas b x).get p=z:=by
 rw[gap_eq rfl,(Wat _).2,List.mem_map]
theorem gapL_lt {b:Bk}{p:Nat}:(gapL b p).Pairwise (·<·):=by
 rw[gap_eq rfl];exact(Wat _).1
end Go.Proofs
end
section
open Go Go.LL
namespace Go.Proofs
theorem boat_sl {b:Bk}(v:Zeo b){x:Boat}(h:x∈Zae b):(x.bf=0∧x.by_=0)∨((1<=x.bf∧x.bf<b.pts.length)∧-b.sl<=x.by_∧x.by_<=b.sl∧x.by_≠0):=by
 have:=(WaO v).1 (WaY v h)
 simpa using this
end Go.Proofs
end
section
open Go Go.LL
namespace Go.Proofs
structure Wider (b o:Bk):Prop where
 op:o.op=b.op
 sl:o.sl=b.sl
 cks:o.cks=b.cks
 n:o.pts.length=b.pts.length
 ml:∀ i,i<b.pts.length->(ptAt o i).ml=(ptAt b i).ml∧(ptAt o i).mh=(ptAt b i).mh
 w:∀ i,i<b.pts.length->(ptAt o i).w=(ptAt b i).w
 b:∀ i,i<b.pts.length->(ptAt o i).bl<=(ptAt b i).bl∧(ptAt b i).bh<=(ptAt o i).bh
end Go.Proofs
end
section
open Go Go.LL
namespace Go.Proofs
structure Learn (b o:Bk):Prop where
 op:o.op=b.op
 n:o.pts.length=b.pts.length
 bd:∀ i,i<b.pts.length->(ptAt o i).bl=(ptAt b i).bl∧(ptAt o i).bh=(ptAt b i).bh∧(ptAt o i).w=(ptAt b i).w
 sub:∀ x∈Zae o,x∈Zae b
theorem Learn.pos {b o:Bk}(h:Learn b o)(h0:0<(Zae o).length):0<(Zae b).length:=by
 obtain⟨x,hx⟩:=List.exists_mem_of_length_pos h0
 exact List.length_pos_of_mem (h.sub x hx)
end Go.Proofs
end
section
open Go Go.LL
namespace Go.Proofs
end Go.Proofs
end
section
open Go Go.LL
namespace Go.Proofs
end Go.Proofs
end
section
open Go Go.LL
namespace Go.Proofs
theorem ne_no {p q:Prop}[Decidable p][Decidable q](h:p↔q):(decide p != decide q)=false:=by
 by_cases hq:q
 ·have hp:=h.2 hq
  simp[hp,hq]
 ·have hp:¬ p:=fun e=>hq (h.1 e)
  simp[hp,hq]
section
variable  {P:Prg}[Tz P][Loud P]{H:Hp}
set_option maxHeartbeats 4000000
set_option maxRecDepth 20000
end
end Go.Proofs
end
section
open Go Go.LL
namespace Go.Proofs
def nB (b:Bk):Nat:=(Zae b).length
def oS (b:Bk):Int:=if 0<nB b then 0 else 9
theorem WaR {b:Bk}(v:Zeo b):Zah b true=oS b:=open_eq v
theorem WaB {b:Bk}(h:0<nB b):oS b=0:=if_pos h
theorem WaG {b:Bk}(h:¬ 0<nB b):oS b=9:=if_neg h
theorem oS_iff {b:Bk}:oS b=0↔0<nB b:=by
 unfold oS
 split
 ·simp[*]
 ·simp[*]
theorem WaM {b:Bk}(h:¬ 0<nB b):Zae b=[]:=List.length_eq_zero_iff.1 (by unfold nB at h;omega)
theorem WaV {b:Bk}(h:¬ 0<nB b)(i:Nat):gapL b i=[]:=List.eq_nil_iff_forall_not_mem.2 fun z hz=>by
 obtain⟨x,hx,_⟩:=Wai.1 hz
 rw[WaM h]at hx;simp at hx
section
variable  {P:Prg}[Tz P][Loud P]{H:Hp}{bv:Value}{b:Bk}
theorem Wa1 (v:Zeo b)(hb:BkAt H bv b)(hg:Za8 H):LL.Zag P 19 #[bv] H fun u H'=>Inc H H'∧u=.tuple #[vi (nB b),vi 0]:=
 LL.Zag.mono (ZfC hb hg (by have:=v.n;omega) (by have:=v.ckn;omega)) fun u H' h=>⟨h.1,by rw[h.2,WaN v];rfl⟩
theorem Gap_v {i:Nat}(hi:i<b.pts.length)(v:Zeo b)(hb:BkAt H bv b)(hg:Za8 H):LL.Zag P 29 #[bv,vi i] H fun u H'=>Inc H H'∧∃ A c,u=.tuple #[.slice A (gapL b i).length c,vi (oS b)]∧SlAt H' (.slice A (gapL b i).length c) (gapL b i):=
 LL.Zag.mono (Gap_ok hb hg (by have:=v.n;omega) (by have:=v.ckn;omega)) fun u H' h=>⟨h.1,by
  rw[there_eq hi,WaR v]at h
  obtain⟨w,bb,rfl,o⟩:=h.2
  have:(if oS b=0 then gapL b (i:Int).toNat else [])=gapL b i:=by
   split
   ·rfl
   ·rename_i h0
    rw[WaV fun e=>h0 (WaB e)]
  rw[this]at o
  obtain⟨A,c,rfl⟩:=WaP o
  exact⟨A,c,rfl,o.sl⟩⟩
theorem Ask_v (v:Zeo b)(hb:BkAt H bv b)(hg:Za8 H):LL.Zag P 39 #[bv] H fun u H'=>Inc H H'∧u=.tuple #[vi (if 0<nB b then (askF b).1 else 0),vi (if 0<nB b then (askF b).2 else 0),vi (oS b)]:=
 LL.Zag.mono (Ask_ok hb hg (by have:=v.n;omega) (by have:=v.ckn;omega)) fun u H' h=>⟨h.1,by
  rw[h.2,WaR v]
  by_cases h0:0<nB b
  ·rw[if_pos (WaB h0),if_pos (WaB h0),if_pos h0,if_pos h0]
  ·rw[if_neg (by rw[WaG h0];decide),if_neg (by rw[WaG h0];decide),if_neg h0,if_neg h0]⟩
end
end Go.Proofs
end
section
open Go Go.LL
namespace Go.Proofs
theorem tmod_rg {a m:Int}(h:0<=a)(hm:0<m):0<=a.tmod m∧a.tmod m<m:=⟨Int.tmod_nonneg _ h,Int.tmod_lt_of_pos _ hm⟩
theorem WaW {b:Bk}(h:fitB b=true):Zeo b:=by
 simp only[fitB,Bool.and_eq_true,decide_eq_true_eq]at h
 exact ZaS h.2
section
variable  {P:Prg}[Tz P][Loud P]{H:Hp}
set_option maxHeartbeats 16000000
set_option maxRecDepth 40000
end
end Go.Proofs
end
section
open Go Go.LL
namespace Go.Proofs
section
variable  {P:Prg}[Tz P][Loud P]{H:Hp}
set_option maxHeartbeats 16000000
set_option maxRecDepth 40000
end
end Go.Proofs
end
section
open Go Go.LL
namespace Go.Proofs
theorem gap_rg {b:Bk}(v:Zeo b){x:Boat}(hx:x∈Zae b){i:Nat}(hi:i<b.pts.length):b.op-(ptAt b i).mh-b.sl<=(Zas b x).get i∧(Zas b x).get i<=b.op-(ptAt b i).ml+b.sl:=by
 have hn:=v.n
 have hsl:=v.sl
 have h1:=((cand_iff v).1 ((WaX v).1 hx).1).1 i hi
 have h2:=boat_sl v hx
 rw[Zas,N4.of_get _ (by omega),if_pos hi,Zk9]
 split<;>omega
theorem tmod_nat {m:Int}{n:Nat}(h:0<=m)(hn:0<n):∃ i:Nat,i<n∧m.tmod n=i:=by
 have:=tmod_rg (m:=(n:Int)) h (by omega)
 exact⟨(m.tmod n).toNat,by omega,by omega⟩
section
variable  {P:Prg}[Tz P][Loud P]{H:Hp}
set_option maxHeartbeats 16000000
set_option maxRecDepth 40000
end
end Go.Proofs
end
section
open Go Go.LL
namespace Go.Proofs
def cntL (L:List Int)(c:Int):Int:=((L.filter fun z=>decide (z=c)).length:Int)
theorem Wad (L:List Int)(g c:Int):cntL (L++[g]) c=cntL L c+if c=g then 1 else 0:=by
 rw[cntL,cntL,List.filter_append,List.length_append]
 by_cases h:c=g
 ·subst h;simp
 ·have:¬ g=c:=fun e=>h e.symm
  simp[h,this]
theorem WaF:∀ L:List Int,(∀ c,getM (askW L).1 c=cntL L c)∧(∀ c,cntL L c<=(askW L).2)∧((askW L).2=0∨∃ c∈L,(askW L).2=cntL L c):=by
 refine Zfm ⟨fun c=>rfl,fun c=>Int.le_refl _,.inl rfl⟩ fun L g ⟨h1,h2,h3⟩=>?_
 rw[ZiZ,ZjI]
 have e1:∀ c,getM (putM (askW L).1 g (getM (askW L).1 g+1)) c=cntL (L++[g]) c:=fun c=>by
  rw[Zjv,Wad]
  by_cases h:c=g
  ·subst h;rw[if_pos rfl,if_pos rfl,h1]
  ·rw[if_neg h,if_neg h,h1,Int.add_zero]
 refine⟨e1,fun c=>?_,?_⟩
 ·show cntL (L++[g]) c<=max (askW L).2 (getM _ g)
  rw[e1]
  have:=h2 c
  by_cases h:c=g
  ·subst h;omega
  ·have:cntL (L++[g]) c=cntL L c:=by rw[Wad,if_neg h,Int.add_zero]
   omega
 ·show max (askW L).2 (getM _ g)=0∨∃ c∈L++[g],max (askW L).2 (getM _ g)=cntL (L++[g]) c
  rw[e1]
  by_cases hm:(askW L).2<=cntL (L++[g]) g
  ·exact .inr ⟨g,by simp,by omega⟩
  ·have hg:0<=cntL (L++[g]) g:=by rw[cntL];omega
   rcases h3 with h3 | ⟨c,hc,h3⟩
   ·omega
   ·refine .inr ⟨c,by simp[hc],?_⟩
    have hcg:c≠g:=by
     rintro rfl
     rw[Wad,if_pos rfl]at hm
     omega
    have e2:cntL (L++[g]) c=cntL L c:=by rw[Wad,if_neg hcg,Int.add_zero]
    rw[e2]
    omega
def askN (b:Bk)(i:Nat):Int:=(askW (Zbm b i)).2
theorem cnt_pt {b:Bk}{i:Nat}{z:Int}:cntL (Zbm b i) z=(((Zae b).filter fun x=>decide ((Zas b x).get i=z)).length:Int):=by
 rw[cntL,Zbm,List.filter_map,List.length_map];rfl
theorem cnt_ck {b:Bk}{i:Nat}{z:Int}(v:Zeo b)(v':Zeo (ckBk b ⟨i,z,z⟩)):((Zae (ckBk b ⟨i,z,z⟩)).length:Int)=cntL (Zbm b i) z:=by
 rw[cnt_pt,boats_ck v v']
 congr 2
 exact List.filter_congr fun x _=>ckOk_one
theorem WaH (b:Bk)(i:Nat):0<=askN b i∧askN b i<=(Zae b).length:=by
 have:=(askW_le (Zbm b i)).2
 rw[Zbm,List.length_map]at this
 exact this
theorem WaZ {b:Bk}{i:Nat}{z:Int}:cntL (Zbm b i) z<=askN b i:=(WaF _).2.1 z
theorem askN_at {b:Bk}{i:Nat}(h:0<(Zae b).length):∃ z∈Zbm b i,askN b i=cntL (Zbm b i) z:=by
 rcases(WaF (Zbm b i)).2.2 with h0 | h1
 ·exfalso
  obtain⟨x,hx⟩:=List.exists_mem_of_length_pos h
  have hm:(Zas b x).get i∈Zbm b i:=List.mem_map.2 ⟨x,hx,rfl⟩
  have h2:=WaZ (b:=b) (i:=i) (z:=(Zas b x).get i)
  have h3:0<cntL (Zbm b i) ((Zas b x).get i):=by
   have:=List.length_pos_of_mem (List.mem_filter.2 ⟨hm,by simp⟩:(Zas b x).get i∈(Zbm b i).filter fun z=>decide (z=(Zas b x).get i))
   rw[cntL];omega
  have h4:askN b i=0:=h0
  omega
 ·exact h1
theorem pt_gapL {b:Bk}{i:Nat}{z:Int}:z∈Zbm b i↔z∈gapL b i:=by rw[Wai,Zbm,List.mem_map]
theorem WaL (b:Bk):∀ n,((askL b n).1=-1∧(askL b n).2=(Zae b).length∨∃ j:Nat,j<n∧(askL b n).1=j∧(askL b n).2=askN b j∧(askL b n).2<(Zae b).length)∧(∀ i,i<n->(askL b n).2<=askN b i)∧∀ i:Nat,i<n->(i:Int)<(askL b n).1->(askL b n).2<askN b i
 | 0=>⟨.inl ⟨rfl,rfl⟩,fun i h=>by omega,fun i h=>by omega⟩
 | n+1=>by
  obtain⟨h1,h2,h3⟩:=WaL b n
  rw[ZmZ]
  have hN:=WaH b n
  have e:(askW (Zbm b n)).2=askN b n:=rfl
  rw[e]
  by_cases h:askN b n<(askL b n).2
  ·rw[if_pos h]
   refine⟨.inr ⟨n,by omega,rfl,rfl,?_⟩,fun i hi=>?_,fun i hi hlt=>?_⟩
   ·show askN b n<_
    rcases h1 with ⟨_,h1⟩ | ⟨_,_,_,_,h1⟩<;>omega
   ·show askN b n<=_
    by_cases hn:i<n
    ·have:=h2 i hn;omega
    ·obtain rfl:i=n:=by omega
     exact Int.le_refl _
   ·show askN b n<_
    have hlt:(i:Int)<(n:Int):=hlt
    have:=h2 i (by omega);omega
  ·rw[if_neg h]
   refine⟨?_,fun i hi=>?_,fun i hi hlt=>?_⟩
   ·rcases h1 with h1 | ⟨j,hj,h1⟩
    ·exact .inl h1
    ·exact .inr ⟨j,by omega,h1⟩
   ·by_cases hn:i<n
    ·exact h2 i hn
    ·obtain rfl:i=n:=by omega
     omega
   ·by_cases hn:i<n
    ·exact h3 i hn hlt
    ·exfalso
     rcases h1 with ⟨h1,_⟩ | ⟨j,hj,h1,_⟩<;>omega
end Go.Proofs
end
