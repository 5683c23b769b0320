/- proofs about Leango given: part En0; made by a program out of the longer texts in wip -/
import Derived.Test.YtamdhefhhdgjbaaGreatDoorP44
set_option linter.all false
section
namespace Go.LL
section
variable  {P:Prg}{d:Option Nat}{r:List NI}{op:NOp}{Q:NSt->Hp->Prop}{next:NSt->Hp->Prop}{σ:NSt}{H:Hp}{x y z:Operand}{v:Value}
variable  {l:List (NI×Option Bool)}
variable  {Qe:Ex->NSt->Hp->Prop}{a b c:Zai}
end
section
variable  {P:Prg}{σ:NSt}{H:Hp}{Qe:Ex->NSt->Hp->Prop}{b:Zai}
theorem Wbp {n j:Nat}{I:Nat->Hp->Prop}{env:Nat->List (Nat×Value)}{box:Nat->List (Nat×List Value)}{σ':NSt}{ds:List Deferred}(hj:j<n)(hI:I (j+1) H)(he:LeE (env (j+1)) σ')(hb:LeB (box (j+1)) σ')(hd:σ'.defs=ds) :
  ∃ j':{ j:Nat // j<=n },n-j'.1<n-j∧I j'.1 H∧LeE (env j'.1) σ'∧LeB (box j'.1) σ'∧σ'.defs=ds:=⟨⟨j+1,hj⟩,by show n-(j+1)<n-j;omega,hI,he,hb,hd⟩
end
end Go.LL
end
section
namespace Go.LL
section
variable  {P:Prg}{d:Option Nat}{next:NSt->Hp->Prop}{σ:NSt}{H:Hp}{x y z:Operand}{v:Value}{ty:TypeId}
theorem WbK {k:IntKind}{m n:Int}{t t2:TypeId}(e1:σ.get x=some (.int k m))(e2:σ.get y=some (.int k n))(hn:n≠0)(h:next (σ.set d (.int k (m.tmod n))) H):(NOp.pur (.binOp .rem t x y t2) ty).m P d next σ H:=by
 refine Zcb (by simp[Op.operands,e1,e2]) ?_ h
 have:execOp (fun x=>(σ.get x).getD undef) (bare (.binOp .rem t x y t2) ty)=pure (.value (.int k (m.tmod n))):=by simp[execOp,bare,e1,e2,eqGuard,binOp,Op.intDiv,hn]
 rw[this]
 exact fun Q g H hq=>hq
end
end Go.LL
end
section
open Go Go.LL Go.Z
namespace Go.Proofs
def n73:Zai:=(sq [o 2 (.lbox 2 [2,10,17,31,39,44] (t 0)),o 4 (.mov (.const s0)),o 5 (.lzero 5 [5] [z0,z0])] (sq [o 6 (.mov (.const s0))] (.seq (sq [mi 7 0] (.block 0 (.loop (.seq (sq [m 9 7,f 10 2 2,ln 11 2 10,le 12 11,b 13 .lss 9 12] (.cond (t 13) .skip (.exit 0))) (.seq (.block 1 (.drawn [(m 16 6,none),(f 17 2 2,none),(ln 18 2 17,none),(m 19 7,none),(ia 20 5 18 19,none),(o 21 (.fadr 0 (t 20)),none),(lm 22 2 21,none),(m 23 1,none),(m 24 7,none),(c2 25 58 23 24,(some true)),(c2 26 136 22 25,(some false)),(o 27 (.buildS 3 1 [z0] [(0,(1,(t 26)))]),(some false)),(o 28 (.raw (.call (.mk (.builtin .append) #[(t 16),(t 27)] #[34,34])) 34),none),(m 6 28,none)])) (.ops [m 14 7,bk 15 .add 14 1,m 7 15])))))) (.seq (.drawn [(m 29 1,none),(f 31 2 2,none),(ln 32 2 31,none),(le 33 32,none),(bk 34 .sub 33 1,none),(m 37 1,none),(f 39 1 2,none),(ln 40 2 39,none),(o 41 (.bin .mul (k 2) (t 40)),none),(bk 42 .add 41 1,none),(f 44 1 2,none),(ln 45 2 44,none),(o 8 (.lzero 8 [8,48,51] [z0,z0]),none),(o 30 (.call 58 [(t 29),(k 4)]),(some false)),(o 35 (.pur (.binOp .rem 3 (t 30) (t 34) 3) 3),none),(o 36 (.bin .add (k 1) (t 35)),none),(o 38 (.call 58 [(t 37),(k 5)]),(some false)),(o 43 (.pur (.binOp .rem 3 (t 38) (t 42) 3) 3),none),(b 46 .sub 43 45,none),(o 47 (.build [z0,z0] [(0,(1,(t 36))),(1,(1,(t 46)))]),none),(ls 8 2 8 47,none)]) (.seq (sq [f 48 1 8,ln 49 8 48,bk 50 .eql 49 0] (.cond (t 50) (.ops [f 51 0 8,u (.lst 8 1 51 (k 0))]) .skip)) (.seq (.drawn [(m 52 6,none),(l 53 8 2 8,none),(m 4 52,none),(ls 5 2 5 53,none)]) .ret))))))
def r73:List NRes:=[(.slot 4),(.var 5 5 (some 2))]
theorem c73:IsN Tryz.prog 73 2 n73 r73:=isq [(2,2),(5,5),(8,8),(10,2),(17,2),(31,2),(39,2),(44,2),(48,8),(51,8)] Tryz.func73
end Go.Proofs
end
section
open Go Go.LL Go.Z
namespace Go.Proofs
def n75:Zai:=(sq [o 3 (.lbox 3 [3,16] (t 0)),o 5 (.lbox 5 [5,24,28] (t 2)),o 6 (.mov (.const s0))] (sq [o 7 (.mov (.const s0))] (.seq (sq [mi 8 0] (.block 0 (.loop (.seq (sq [m 10 8,m 11 1,le 12 11,b 13 .lss 10 12] (.cond (t 13) .skip (.exit 0))) (.seq (.block 1 (.seq (.drawn [(f 16 0 3,none),(ln 17 3 16,none),(m 18 1,none),(m 19 8,none),(ia 20 1 18 19,none),(ld 21 20,none),(b 22 .sub 17 21,none),(m 9 22,none)]) (.seq (sq [m 23 8,f 24 0 5,ln 25 5 24,b 26 .geq 23 25] (.cond (t 26) (.ops [m 27 9,f 28 1 5,ln 29 5 28,b 30 .add 27 29,m 9 30]) .skip)) (.ops [m 31 7,m 32 9,o 33 (.buildS 3 1 [z0] [(0,(1,(t 32)))]),o 34 (.raw (.call (.mk (.builtin .append) #[(t 31),(t 33)] #[34,34])) 34),m 7 34])))) (.ops [m 14 8,bk 15 .add 14 1,m 8 15])))))) (sq [m 35 7,m 6 35] .ret))))
def r75:List NRes:=[(.slot 6)]
theorem c75:IsN Tryz.prog 75 3 n75 r75:=isq [(3,3),(5,5),(16,3),(24,5),(28,5)] Tryz.func75
end Go.Proofs
end
section
open Go Go.LL Go.Z
namespace Go.Proofs
def n76:Zai:=(sq [o 2 (.mov (.const s0))] (sq [o 3 (.mov (.const s0))] (.seq (sq [mi 4 0] (.block 0 (.loop (.seq (sq [m 5 4,m 6 0,b 7 .lss 5 6] (.cond (t 7) .skip (.exit 0))) (.seq (.block 1 (.ops [m 10 3,m 11 4,o 12 (.buildS 3 1 [z0] [(0,(1,(t 11)))]),o 13 (.raw (.call (.mk (.builtin .append) #[(t 10),(t 12)] #[34,34])) 34),m 3 13])) (.ops [m 8 4,bk 9 .add 8 1,m 4 9])))))) (sq [m 14 3,m 2 14] .ret))))
def r76:List NRes:=[(.slot 2)]
theorem c76:IsN Tryz.prog 76 1 n76 r76:=isq [] Tryz.func76
def n136:Zai:=(sq [o 2 (.lbox 2 [2,5,8,10] (t 0)),mi 4 0] (.seq (.drawn [(f 5 0 2,none),(ln 6 2 5,none),(m 7 1,none),(f 8 1 2,none),(ln 9 2 8,none),(f 10 0 2,none),(ln 11 2 10,none),(b 12 .sub 9 11,none),(bk 13 .add 12 1,none),(o 14 (.pur (.binOp .rem 3 (t 7) (t 13) 3) 3),none),(b 15 .add 6 14,none),(m 4 15,none)]) .ret))
def r136:List NRes:=[(.slot 4)]
theorem c136:IsN Tryz.prog 136 2 n136 r136:=isq [(2,2),(5,2),(8,2),(10,2)] Tryz.func136
end Go.Proofs
end
section
open Go Go.LL Go.Z
namespace Go.Proofs
def n14:Zai:=(sq [o 2 (.lbox 2 [2,39] (t 0)),m0 4] (.seq (sq [l 20 2 4 2,c1 21 48 20,o 22 (.not (t 21))] (.cond (t 22) (sq [c0 23 18,m 4 23] .ret) .skip)) (sq [l 25 2 4 2,m 26 1,c2 27 73 25 26,m 24 27,x 28 24 0,x 29 24 1,o 6 (.lzero 6 [6,112,166] [z0,z0]),m 5 28,ls 6 2 6 29] (sq [m 30 5,le 31 30,bk 32 .sub 31 1,m 7 32] (sq [l 33 2 4 2,m 34 5,l 35 6 2 6,c3 36 75 33 34 35,m 8 36] (sq [l 37 2 4 2,o 9 (.lzero 9 [9,42,49,72] [z0,z0,s0,s0]),ls 9 4 9 37] (sq [o 38 (.raw (.buildSlice 22 0 #[]) 22),f 39 2 2,ln 40 2 39,o 41 (.raw (.call (.mk (.builtin .append) #[(t 38),(t 40)] #[22,22])) 22),f 42 2 9,ls 9 1 42 41] (.seq (sq [mi 10 0] (.block 0 (.loop (.seq (sq [m 43 10,m 44 5,le 45 44,b 46 .lss 43 45] (.cond (t 46) .skip (.exit 0))) (.seq (.block 1 (.drawn [(f 49 2 9,none),(ln 50 9 49,none),(m 51 10,none),(m 52 5,none),(m 53 10,none),(ia 54 1 52 53,none),(ld 55 54,none),(c1 56 49 55,(some false)),(ia 57 5 50 51,none),(o 58 (.fadr 0 (t 57)),none),(st 49 58 56 0,none)])) (.ops [m 47 10,bk 48 .add 47 1,m 10 48])))))) (.seq (.drawn [(m 59 8,none),(o 60 (.iadr 1 (t 59) (k 0)),none),(ld 61 60,none),(m 64 7,none),(m 65 8,none),(m 66 7,none),(ia 67 1 65 66,none),(ld 68 67,none),(c1 62 49 61,(some true)),(o 63 (.build [z0,z0,z0] [(0,(1,(k 0))),(1,(2,(t 62)))]),none),(c1 69 49 68,(some false)),(o 70 (.build [z0,z0,z0] [(0,(1,(t 64))),(1,(2,(t 69)))]),none),(o 71 (.buildS 51 2 [z0,z0,z0,z0,z0,z0] [(0,(3,(t 63))),(3,(3,(t 70)))]),none),(f 72 3 9,none),(ls 9 1 72 71,none)]) (sq [l 74 9 4 9,c1 75 19 74,m 73 75,x 76 73 0,x 77 73 1,m 11 76,m 12 77] (sq [l 79 9 4 9,c1 80 21 79,m 78 80,x 81 78 0,x 82 78 1,m 13 81,m 14 82] (sq [l 84 9 4 9,c1 85 26 84,m 83 85,x 86 83 0,x 87 83 1,m 15 86,m 16 87] (sq [l 89 9 4 9,c1 90 23 89,m 88 90,x 91 88 0,x 92 88 1,m 17 91,m 18 92] (.seq (sq [m 93 12,bk 94 .neq 93 0,m 95 94,mf 95 96 14,gf 95 97 (.bin .neq (t 96) (k 0)),po 98 95 97,m 99 98,mf 99 100 16,gf 99 101 (.bin .neq (t 100) (k 0)),po 102 99 101,m 103 102,mf 103 104 18,gf 103 105 (.bin .neq (t 104) (k 0)),po 106 103 105,m 107 106,mf 107 108 15,gf 107 109 (.len (t 108)),gf 107 110 (.bin .gtr (t 109) (k 50)),po 111 107 110] (.cond (t 111) (sq [m0 4] .ret) .skip)) (.seq (sq [f 112 1 6,ln 113 6 112,bk 114 .eql 113 0] (.cond (t 114) (sq [m 115 11,bk 116 .eql 115 1,m 117 116,mt 117 118 13,gt 117 119 (.bin .eql (t 118) (k 2)),pa 120 117 119,m 121 120,mt 121 122 15,gt 121 123 (.len (t 122)),mt 121 124 17,gt 121 125 (.len (t 124)),gt 121 126 (.bin .add (t 123) (t 125)),gt 121 127 (.bin .eql (t 126) (k 0)),pa 128 121 127,m 129 128,gt 129 130 (.call 18 []),pa 131 129 130,m 4 131] .ret) .skip)) (.seq (sq [m 132 11,m 133 7,b 134 .neq 132 133,m 135 134,mf 135 136 13,gf 135 137 (.bin .neq (t 136) (k 1)),po 138 135 137,m 139 138,mf 139 140 15,gf 139 141 (.len (t 140)),mf 139 142 7,gf 139 143 (.bin .neq (t 141) (t 142)),po 144 139 143,m 145 144,mf 145 146 17,mf 145 147 7,gf 145 148 (.bin .add (t 147) (k 1)),gf 145 149 (.call 76 [(t 148)]),gf 145 150 (.pur (.slice 34 (t 149) (some (k 1)) none none) 34),gf 145 151 (.call 25 [(t 146),(t 150)]),gf 145 152 (.not (t 151)),po 153 145 152] (.cond (t 153) (sq [m0 4] .ret) .skip)) (.seq (sq [mi 19 0] (.block 2 (.loop (.seq (sq [m 154 19,m 155 15,le 156 155,b 157 .lss 154 156] (.cond (t 157) .skip (.exit 2))) (.seq (.block 3 (.seq (.drawn [(m 160 15,none),(m 161 19,none),(ia 162 2 160 161,none),(lm 163 2 162,none),(m 164 19,none),(bk 165 .add 164 1,none),(f 166 1 6,none),(ln 167 6 166,none),(o 168 (.build [z0,z0] [(0,(1,(t 165))),(1,(1,(t 167)))]),none),(o 169 (.pur (.binOp .neq 70 (t 163) (t 168) 70) 4),none)]) (.cond (t 169) (sq [m0 4] .ret) .skip))) (.ops [m 158 19,bk 159 .add 158 1,m 19 159])))))) (sq [c0 170 18,m 4 170] .ret))))))))))))))))))
def r14:List NRes:=[(.slot 4)]
theorem c14:IsN Tryz.prog 14 2 n14 r14:=isq [(2,2),(6,6),(9,9),(39,2),(42,9),(49,9),(72,9),(112,6),(166,6)] Tryz.func14
end Go.Proofs
end
section
open Go Go.LL
namespace Go.Proofs
def Waa (b:Bk)(l:List Int)(k:Slip):List Int:=(List.range l.length).map fun i=>b.op-l.getD i 0+if k.bf<=i then k.by_ else 0
section
variable  {P:Prg}[Tz P][Loud P]{H:Hp}
set_option maxHeartbeats 2000000
set_option maxRecDepth 20000
end
end Go.Proofs
end
section
open Go Go.LL
namespace Go.Proofs
theorem Wbn {H:Hp}{r:Nat}{E:TypeId}{x:Int}:SlAt (H.ins r (.cells [vi x].toArray E)) (.slice (some ⟨r,0,none⟩) 1 1) [x]:=Za4 (l:=[x])
section
variable  {P:Prg}[Tz P][Loud P]{H:Hp}
set_option maxHeartbeats 2000000
set_option maxRecDepth 20000
theorem WbT {bv lv:Value}{b:Bk}{l:List Int}{k:Slip}(hb:BkAt H bv b)(hlv:SlAt H lv l)(hl:l.length<=1000000)(ho:Sm b.op)(hsm:∀ x∈l,Sm x)(hk:Sm k.by_) :
  LL.Zag P 75 #[bv,lv,.agg #[vi k.bf,vi k.by_]] H fun v H'=>Inc H H'∧∃ bb,Own H H' 3 v (Waa b l k) bb:=by
 have hs:∀ g,P.still g=false:=Loud.loud
 obtain⟨pv,cv,rfl,hp,hc⟩:=hb
 obtain⟨o1,o2⟩:=ho
 obtain⟨k1,k2⟩:=hk
 refine IsN.m (isn c75) (args:=[.agg #[vi b.op,vi b.sl,pv,cv],lv,.agg #[vi k.bf,vi k.by_]]) rfl ?_
 unfold n75
 refine wkT ?_
 refine ZaP (α:=Value×Option Nat) l.length (fun j s H'=>Inc H H'∧Own H H' 3 s.1 ((Waa b l k).take j) s.2) (fun j s=>[(1,lv),(3,vi 0),(5,vi 0),(7,s.1),(8,vi j)]) (fun _ _=>[(3,[vi b.op,vi b.sl,pv,cv]),(5,[vi k.bf,vi k.by_])]) (.slice none 0 0,none) ⟨.refl H,.nil _ _ _⟩ ⟨rfl,rfl,rfl,rfl,rfl,trivial⟩ ⟨rfl,rfl,trivial⟩ ?_
 rintro j ⟨v7,b7⟩ H1 hj ⟨hi1,o7⟩
 simp only at o7
 have hlen:(Waa b l k).length=l.length:=by simp[Waa]
 refine wkT ?_
 refine Zav (hlv.inc hi1) rfl ?_
 refine wkT ?_
 refine wiT (fun h1=>?_) (fun h1=>?_)
 ·have hj':j<l.length:=by omega
  obtain⟨m1,m2⟩:=hsm l[j] (List.getElem_mem hj')
  have htk:(Waa b l k).take (j+1)=(Waa b l k).take j++[b.op-l[j]+if k.bf<=j then k.by_ else 0]:=by
   rw[List.take_succ_eq_append_getElem (by omega)]
   simp[Waa,List.getD_eq_getElem?_getD,hj']
  have htl:((Waa b l k).take j).length<=j:=by rw[List.length_take];omega
  refine wkT ?_
  refine ZaE (hlv.inc hi1) rfl rfl rfl (i:=j) hj' fun a ha=>?_
  refine wkT ?_
  refine Zaf (hs _) rfl ha ?_
  refine wkT ?_
  refine wiT (fun h2=>?_) (fun h2=>?_)
  ·rw[if_pos h2]at htk
   refine wkT ?_
   refine Zat (cs:=[vi (b.op-l[j]+k.by_)]) (hs _) rfl fun r1 hr1=>?_
   refine wkT ?_
   refine ZbW (l':=[b.op-l[j]+k.by_]) (und u34) (und u34) (tif t3) rfl (by decide) (hi1.trans (Zaj hr1)) (o7.ins hr1) Wbn rfl (by simp;omega) (by omega) rfl rfl (hs _) fun v8 H3 b8 g1 g2 g3=>?_
   rw[<-htk]at g2
   refine wkT ?_
   exact⟨(⟨j+1,by omega⟩,(v8,b8)),Nat.sub_lt_sub_left (by omega) (Nat.lt_succ_self j),⟨g1,g2⟩,⟨rfl,rfl,rfl,rfl,rfl,trivial⟩,⟨rfl,rfl,trivial⟩,rfl⟩
  ·rw[if_neg h2,Int.add_zero]at htk
   refine wkT ?_
   refine Zat (cs:=[vi (b.op-l[j])]) (hs _) rfl fun r1 hr1=>?_
   refine wkT ?_
   refine ZbW (l':=[b.op-l[j]]) (und u34) (und u34) (tif t3) rfl (by decide) (hi1.trans (Zaj hr1)) (o7.ins hr1) Wbn rfl (by simp;omega) (by omega) rfl rfl (hs _) fun v8 H3 b8 g1 g2 g3=>?_
   rw[<-htk]at g2
   refine wkT ?_
   exact⟨(⟨j+1,by omega⟩,(v8,b8)),Nat.sub_lt_sub_left (by omega) (Nat.lt_succ_self j),⟨g1,g2⟩,⟨rfl,rfl,rfl,rfl,rfl,trivial⟩,⟨rfl,rfl,trivial⟩,rfl⟩
 ·have:j=l.length:=by omega
  subst this
  rw[List.take_of_length_le (by omega)]at o7
  refine wkT ?_
  exact⟨hi1,b7,o7⟩
end
end Go.Proofs
end
section
open Go Go.LL
namespace Go.Proofs
def Waz (b:Bk)(i:Nat):List Int:=(List.range ((ptAt b i).mh-(ptAt b i).ml+1).toNat).map fun (t:Nat)=>(ptAt b i).ml+t
def mkL (b:Bk):Nat->List (List Int)
 | 0=>[[]]
 | i+1=>(mkL b i).flatMap fun l=>(Waz b i).map fun n=>l++[n]
theorem mk_mem {b:Bk}(v:Zeo b):∀ i,i<=b.pts.length->∀ l∈mkL b i,l.length=i∧∀ x∈l,0<=x∧x<=99
 | 0,_,l,hl=>by
  rw[mkL,List.mem_singleton]at hl
  subst hl;simp
 | i+1,hi,l,hl=>by
  rw[mkL,List.mem_flatMap]at hl
  obtain⟨m,hm,hl⟩:=hl
  obtain⟨n,hn,rfl⟩:=List.mem_map.1 hl
  obtain⟨h1,h2⟩:=mk_mem v i (by omega) m hm
  refine⟨by simp[h1],fun x hx=>?_⟩
  rcases List.mem_append.1 hx with hx | hx
  ·exact h2 x hx
  ·rw[List.mem_singleton.1 hx]
   rw[Waz,List.mem_map]at hn
   obtain⟨t,ht,rfl⟩:=hn
   rw[List.mem_range]at ht
   rw[show ptAt b i=b.pts[i] from Zbd (by omega) _]at ht ⊢
   have:=v.pts i (by omega)
   omega
section
variable  {P:Prg}[Tz P][Loud P]{H:Hp}
set_option maxHeartbeats 4000000
set_option maxRecDepth 20000
end
end Go.Proofs
end
section
open Go Go.LL
namespace Go.Proofs
def bodyF (b:Bk)(l:List Int)(ks:List Slip):List Boat:=(ks.map fun k=>(⟨n4of l,k.bf,k.by_⟩:Boat)).filter (ZgQ b)
def Wa3 (hi:Int):Nat->List Int
 | 0=>[]
 | c+1=>(hi-c) :: Wa3 hi c
theorem WaM (f:Int->List Boat)(hi:Int):∀ c,spanR f hi c=(Wa3 hi c).flatMap f
 | 0=>rfl
 | c+1=>by rw[spanR,Wa3,List.flatMap_cons,WaM f hi c]
theorem Wa2 {hi:Int}:∀ {c:Nat},(Wa3 hi c).length=c∧∀ t,t<c->(Wa3 hi c)[t]? = some (hi-(c-1-t:Nat))
 | 0=>⟨rfl,fun t h=>by omega⟩
 | c+1=>by
  obtain⟨h1,h2⟩:=@Wa2 hi c
  refine⟨by rw[Wa3,List.length_cons,h1],fun t ht=>?_⟩
  rw[Wa3]
  cases t with
  | zero=>simp
  | succ t=>rw[List.getElem?_cons_succ,h2 t (by omega)];congr 2;omega
theorem spanL_eq {b:Bk}{i:Nat}:Wa3 (ptAt b i).mh ((ptAt b i).mh-(ptAt b i).ml+1).toNat=Waz b i:=by
 obtain⟨h1,h2⟩:=@Wa2 (ptAt b i).mh ((ptAt b i).mh-(ptAt b i).ml+1).toNat
 have hl:(Waz b i).length=((ptAt b i).mh-(ptAt b i).ml+1).toNat:=by simp[Waz]
 refine List.ext_getElem? fun t=>?_
 by_cases ht:t<((ptAt b i).mh-(ptAt b i).ml+1).toNat
 ·rw[h2 t ht,Waz,List.getElem?_map,List.getElem?_range ht]
  show some ((ptAt b i).mh-((((ptAt b i).mh-(ptAt b i).ml+1).toNat-1-t:Nat):Int))=some ((ptAt b i).ml+(t:Int))
  congr 1;omega
 ·rw[List.getElem?_eq_none (by omega),List.getElem?_eq_none (by omega)]
def lvN (b:Bk):Nat->List N4
 | 0=>[⟨0,0,0,0⟩]
 | i+1=>(lvN b i).flatMap fun m=>(Waz b i).map fun n=>m.put i n
theorem Wav {α β γ:Type}(l:List α)(f:α->List β)(g:β->List γ):(l.flatMap f).flatMap g=l.flatMap fun a=>(f a).flatMap g:=by
 induction l with
 | nil=>rfl
 | cons a l ih=>simp[List.flatMap_cons,List.flatMap_append,ih]
theorem Waj {α β γ:Type}(l:List α)(f:α->β)(g:β->List γ):(l.map f).flatMap g=l.flatMap fun a=>g (f a):=by
 induction l with
 | nil=>rfl
 | cons a l ih=>simp[List.flatMap_cons,ih]
theorem WaL {α β:Type}{l:List α}{f g:α->List β}(h:∀ a∈l,f a=g a):l.flatMap f=l.flatMap g:=by
 induction l with
 | nil=>rfl
 | cons a l ih=>rw[List.flatMap_cons,List.flatMap_cons,h a (List.mem_cons_self ..),ih fun x hx=>h x (List.mem_cons_of_mem _ hx)]
theorem lv_step {b:Bk}{r i:Nat}(h:b.pts.length=i+(r+1)):(lvN b (i+1)).flatMap (boatsFrom b r)=(lvN b i).flatMap (boatsFrom b (r+1)):=by
 rw[lvN,Wav]
 congr 1
 funext m
 rw[Waj,boatsFrom,WaM]
 have e:b.pts.length-(r+1)=i:=by omega
 rw[e,spanL_eq]
theorem lv_all {b:Bk}:∀ (r i:Nat),b.pts.length=i+r->(lvN b i).flatMap (boatsFrom b r)=(lvN b b.pts.length).flatMap (boatsFrom b 0)
 | 0,i,h=>by rw[h,Nat.add_zero]
 | r+1,i,h=>by rw[<-lv_step h];exact lv_all r (i+1) (by omega)
theorem boats_lv (b:Bk):Zae b=(lvN b b.pts.length).flatMap (boatsFrom b 0):=by
 rw[<-lv_all b.pts.length 0 (by omega)]
 simp[lvN,Zae]
theorem Wac {l:List Int}{j:Nat}(hj:j<4):(n4of l).get j=l.getD j 0:=N4.of_get _ hj
theorem lv_mk {b:Bk}(v:Zeo b):∀ i,i<=b.pts.length->lvN b i=(mkL b i).map n4of
 | 0,_=>rfl
 | i+1,hi=>by
  have hi4:i<4:=by have:=v.n;omega
  rw[lvN,lv_mk v i (by omega),mkL,Waj,List.map_flatMap]
  refine WaL fun l hl=>?_
  rw[List.map_map]
  refine List.map_congr_left fun n _=>?_
  obtain⟨h1,_⟩:=mk_mem v i (by omega) l hl
  refine N4.ext' fun j hj=>?_
  rw[N4.put_get _ _ hj,Wac hj]
  show _=(n4of (l++[n])).get j
  rw[Wac hj]
  simp only[List.getD_eq_getElem?_getD]
  by_cases e:j=i
  ·subst e
   rw[if_pos rfl,List.getElem?_append_right (by omega),h1]
   simp
  ·rw[if_neg e]
   by_cases e2:j<i
   ·rw[List.getElem?_append_left (by omega)]
   ·rw[List.getElem?_eq_none (by omega),List.getElem?_eq_none (by rw[List.length_append,List.length_singleton];omega)]
theorem Wbs {b:Bk}(v:Zeo b):Zae b=(mkL b b.pts.length).flatMap fun l=>bodyF b l (ZaC b):=by
 rw[boats_lv,lv_mk v _ (Nat.le_refl _),Waj]
 rfl
section
variable  {P:Prg}[Tz P][Loud P]{H:Hp}
set_option maxHeartbeats 4000000
set_option maxRecDepth 20000
end
end Go.Proofs
end
section
open Go Go.LL
namespace Go.Proofs
def insD (x:Int):List Int->List Int
 | []=>[x]
 | y :: r=>if y<x then y :: insD x r else if y=x then y :: r else x :: y :: r
def ordF (l:List Int):List Int:=l.foldl (fun o x=>insD x o) []
theorem Wbo (x:Int):∀ l,(insD x l).length<=l.length+1
 | []=>by simp[insD]
 | y :: r=>by
  rw[insD]
  have:=Wbo x r
  split
  ·simp only[List.length_cons];omega
  ·split<;>simp
theorem ordF_len:∀ l:List Int,(ordF l).length<=l.length:=by
 refine Zfm (by simp[ordF]) fun l x ih=>?_
 have:=Wbo x (ordF l)
 rw[ordF,List.foldl_append,List.length_append,List.length_singleton]
 show (insD x (ordF l)).length<=_
 omega
section
variable  {P:Prg}[Tz P][Loud P]{H:Hp}
set_option maxHeartbeats 4000000
set_option maxRecDepth 20000
end
end Go.Proofs
end
section
open Go Go.LL
namespace Go.Proofs
section
variable  {P:Prg}[Tz P][Loud P]{H:Hp}
set_option maxHeartbeats 4000000
set_option maxRecDepth 20000
def byN (x:Boat):Bool:=!decide (x.by_=0)
end
end Go.Proofs
end
section
open Go Go.LL
namespace Go.Proofs
def slEq (k:Slip)(x:Boat):Bool:=decide (x.bf=k.bf∧x.by_=k.by_)
def Wab (b:Bk):List Slip:=((ZaC b).drop 1).filter fun k=>(Zae b).any (slEq k)
section
variable  {P:Prg}[Tz P][Loud P]{H:Hp}
set_option maxHeartbeats 4000000
set_option maxRecDepth 20000
end
end Go.Proofs
end
section
open Go Go.LL
namespace Go.Proofs
theorem Way:∀ {l m:List Int},l.Pairwise (·<·)->m.Pairwise (·<·)->(∀ x,x∈l↔x∈m)->l=m
 | [],[],_,_,_=>rfl
 | [],y :: m,_,_,h=>by have:=(h y).2 (List.mem_cons_self ..);simp at this
 | x :: l,[],_,_,h=>by have:=(h x).1 (List.mem_cons_self ..);simp at this
 | x :: l,y :: m,hl,hm,h=>by
  obtain⟨l1,l2⟩:=List.pairwise_cons.1 hl
  obtain⟨m1,m2⟩:=List.pairwise_cons.1 hm
  have exy:x=y:=by
   have h1:=(h x).1 (List.mem_cons_self ..)
   have h2:=(h y).2 (List.mem_cons_self ..)
   rcases List.mem_cons.1 h1 with rfl | h1
   ·rfl
   ·rcases List.mem_cons.1 h2 with rfl | h2
    ·rfl
    ·have:=l1 y h2;have:=m1 x h1;omega
  subst exy
  congr 1
  refine Way l2 m2 fun z=>⟨fun hz=>?_,fun hz=>?_⟩
  ·rcases List.mem_cons.1 ((h z).1 (List.mem_cons_of_mem _ hz)) with rfl | hz'
   ·have:=l1 z hz;omega
   ·exact hz'
  ·rcases List.mem_cons.1 ((h z).2 (List.mem_cons_of_mem _ hz)) with rfl | hz'
   ·have:=m1 z hz;omega
   ·exact hz'
theorem WaU (x:Int):∀ (l:List Int) (z:Int),z∈insD x l↔z=x∨z∈l
 | [],z=>by simp[insD]
 | y :: r,z=>by
  rw[insD]
  have ih:=WaU x r z
  split
  ·rw[List.mem_cons,ih,List.mem_cons]
   constructor
   ·rintro(h | h | h)
    ·exact .inr (.inl h)
    ·exact .inl h
    ·exact .inr (.inr h)
   ·rintro(h | h | h)
    ·exact .inr (.inl h)
    ·exact .inl h
    ·exact .inr (.inr h)
  ·split
   ·rename_i h;subst h;rw[List.mem_cons]
    constructor
    ·exact .inr
    ·rintro(h | h)
     ·exact .inl h
     ·exact h
   ·rw[List.mem_cons]
theorem WbL (x:Int):∀ {l:List Int},l.Pairwise (·<·)->(insD x l).Pairwise (·<·)
 | [],_=>by simp[insD]
 | y :: r,h=>by
  obtain⟨h1,h2⟩:=List.pairwise_cons.1 h
  rw[insD]
  split
  ·rename_i hy
   refine List.pairwise_cons.2 ⟨fun z hz=>?_,WbL x h2⟩
   rcases(WaU x r z).1 hz with rfl | hz
   ·exact hy
   ·exact h1 z hz
  ·split
   ·exact h
   ·refine List.pairwise_cons.2 ⟨fun z hz=>?_,h⟩
    rcases List.mem_cons.1 hz with rfl | hz
    ·omega
    ·have:=h1 z hz;omega
theorem Wax:∀ l:List Int,(ordF l).Pairwise (·<·)∧∀ z,z∈ordF l↔z∈l:=by
 refine Zfm ⟨.nil,fun z=>Iff.rfl⟩ fun l x ih=>?_
 have e:ordF (l++[x])=insD x (ordF l):=by rw[ordF,List.foldl_append];rfl
 rw[e]
 refine⟨WbL x ih.1,fun z=>?_⟩
 rw[WaU,ih.2 z,List.mem_append,List.mem_singleton]
 exact Or.comm
theorem Wbq {l:List Int}(h:l.Pairwise (·<=·)):∀ n,n<=l.length->(cmpP l n).Pairwise (·<·)∧(∀ z,z∈cmpP l n↔z∈l.take n)∧(∀ z∈cmpP l n,z<=el l (n-1))
 | 0,_=>⟨.nil,fun z=>by simp[cmpP],fun z hz=>by simp[cmpP]at hz⟩
 | n+1,hn=>by
  obtain⟨h1,h2,h3⟩:=Wbq h n (by omega)
  have hmono:∀ i j,i<=j->j<l.length->el l i<=el l j:=by
   intro i j hij hj
   rw[Zhf (by omega),Zhf hj]
   rcases Nat.lt_or_ge i j with h' | h'
   ·exact List.pairwise_iff_getElem.1 h i j (by omega) hj h'
   ·have:i=j:=by omega
    subst this;exact Int.le_refl _
  rw[Zi7 (by omega)]
  by_cases h0:n=0
  ·subst h0
   rw[cmp_one]
   exact⟨List.pairwise_singleton _ _,fun z=>by simp,fun z hz=>by rw[List.mem_singleton.1 hz];exact Int.le_refl _⟩
  ·by_cases he:el l n=el l (n-1)
   ·rw[cmp_eq h0 he]
    refine⟨h1,fun z=>?_,fun z hz=>?_⟩
    ·rw[h2,List.mem_append,List.mem_singleton]
     constructor
     ·exact .inl
     ·rintro(hz | rfl)
      ·exact hz
      ·rw[he]
       have e2:n=(n-1)+1:=by omega
       rw[e2,Zi7 (by omega)]
       simp
    ·have:=h3 z hz;rw[Nat.add_sub_cancel,he];exact this
   ·rw[cmp_ne he]
    refine⟨?_,fun z=>?_,fun z hz=>?_⟩
    ·rw[List.pairwise_append]
     refine⟨h1,List.pairwise_singleton _ _,fun a ha c hc=>?_⟩
     rw[List.mem_singleton.1 hc]
     have g1:=h3 a ha
     have g2:=hmono (n-1) n (by omega) (by omega)
     omega
    ·rw[List.mem_append,h2,List.mem_append]
    ·rw[Nat.add_sub_cancel]
     rcases List.mem_append.1 hz with hz | hz
     ·have g1:=h3 z hz
      have g2:=hmono (n-1) n (by omega) (by omega)
      omega
     ·rw[List.mem_singleton.1 hz];exact Int.le_refl _
theorem WbP {l m:List Int}(h:l.Pairwise (·<=·))(hm:∀ z,z∈l↔z∈m):cmpF l=ordF m:=by
 obtain⟨h1,h2,_⟩:=Wbq h l.length (Nat.le_refl _)
 obtain⟨h3,h4⟩:=Wax m
 exact Way h1 h3 fun z=>by rw[cmpF,h2,h4,List.take_length];exact hm z
theorem WaG {b:Bk}(v:Zeo b){x:Boat}(h:x∈Zae b):(⟨x.bf,x.by_⟩:Slip)∈ZaC b:=by
 rw[Wbs v]at h
 obtain⟨l,_,h⟩:=List.mem_flatMap.1 h
 obtain⟨k,hk,rfl⟩:=List.mem_map.1 (List.mem_filter.1 h).1
 exact hk
theorem WaA {b:Bk}(v:Zeo b){k:Slip}(h:k∈(ZaC b).drop 1):(1<=k.bf∧k.bf<b.pts.length)∧-b.sl<=k.by_∧k.by_<=b.sl∧k.by_≠0:=by
 have:=v.sl
 have:=v.n
 have h:=Zj7 (n:=b.pts.length) (sl:=b.sl.toNat) _ (by omega) k h
 omega
theorem WaO {b:Bk}{k:Slip}(h:k∈ZaC b):k=⟨0,0⟩∨k∈(ZaC b).drop 1:=List.mem_cons.1 h
theorem Wbv {b:Bk}(v:Zeo b){x:Boat}(h:x∈Zae b):x.slipped=byN x:=by
 rcases WaO (WaG v h) with h1 | h1
 ·simp only[Slip.mk.injEq]at h1
  simp[Boat.slipped,byN,h1]
 ·have:=(WaA v h1).2.2.2
  simp only at this
  simp[Boat.slipped,byN,this]
theorem WaI {b:Bk}(v:Zeo b):(Zae b).filter Boat.slipped=(Zae b).filter byN:=List.filter_congr fun x hx=>Wbv v hx
theorem WaS {b:Bk}(v:Zeo b):ZjU b=Wab b:=by
 have h0:ZaC b=⟨0,0⟩ :: (ZaC b).drop 1:=rfl
 rw[ZjU,h0,List.filter_cons,Wab]
 have hno:((Zae b).any (ZfN ⟨0,0⟩))=false:=by
  rw[List.any_eq_false]
  intro x _
  simp only[ZfN,Boat.slipped]
  by_cases h:x.bf=0∧x.by_=0<;>simp[h]
 rw[hno,if_neg (by simp)]
 refine List.filter_congr fun k hk=>?_
 have hk0:=(WaA v hk).2.2.2
 rw[Bool.eq_iff_iff,List.any_eq_true,List.any_eq_true]
 constructor
 ·rintro⟨x,hx,h⟩
  exact⟨x,hx,by simp only[ZfN,Bool.and_eq_true]at h;exact h.2⟩
 ·rintro⟨x,hx,h⟩
  refine⟨x,hx,?_⟩
  have h:=of_decide_eq_true h
  simp only[ZfN,Boat.slipped,h,Bool.and_eq_true]
  simp[hk0]
theorem Wai {bf:Int}{sl:Nat}:∀ r,∀ k∈innerR bf sl r,k.bf=bf
 | 0,k,h=>by simp[innerR]at h
 | r+1,k,h=>by
  rw[innerR]at h
  split at h
  ·exact Wai r k h
  ·rcases List.mem_cons.1 h with rfl | h
   ·rfl
   ·exact Wai r k h
theorem Waw {n sl:Nat}:∀ r,∀ k∈outerR n sl r,(n:Int)-r<=k.bf
 | 0,k,h=>by simp[outerR]at h
 | r+1,k,h=>by
  rw[outerR]at h
  rcases List.mem_append.1 h with h | h
  ·have:=Wai _ k h;omega
  ·have:=Waw r k h;omega
theorem pw_const {l:List Slip}{c:Int}(h:∀ k∈l,k.bf=c):l.Pairwise fun a d=>a.bf<=d.bf:=by
 induction l with
 | nil=>exact .nil
 | cons a l ih=>
  refine List.pairwise_cons.2 ⟨fun d hd=>?_,ih fun k hk=>h k (List.mem_cons_of_mem _ hk)⟩
  rw[h a (List.mem_cons_self ..),h d (List.mem_cons_of_mem _ hd)];exact Int.le_refl _
theorem Was {n sl:Nat}:∀ r,(outerR n sl r).Pairwise fun a d=>a.bf<=d.bf
 | 0=>.nil
 | r+1=>by
  rw[outerR,List.pairwise_append]
  refine⟨pw_const fun k hk=>Wai _ k hk,Was r,fun a ha d hd=>?_⟩
  have h1:=Wai _ a ha
  have h2:=Waw r d hd
  omega
theorem WbA {b:Bk}(v:Zeo b):whenL b=ordF (((Zae b).filter byN).map Boat.bf):=by
 rw[whenL,WaS v]
 refine WbP ?_ fun z=>?_
 ·rw[List.pairwise_map]
  exact(Was _).sublist List.filter_sublist
 ·rw[List.mem_map,List.mem_map]
  constructor
  ·rintro⟨k,hk,rfl⟩
   obtain⟨h1,h2⟩:=List.mem_filter.1 hk
   obtain⟨x,hx,h3⟩:=List.any_eq_true.1 h2
   have h3:=of_decide_eq_true h3
   refine⟨x,List.mem_filter.2 ⟨hx,?_⟩,h3.1⟩
   have:=(WaA v h1).2.2.2
   simp[byN,h3.2,this]
  ·rintro⟨x,hx,rfl⟩
   obtain⟨h1,h2⟩:=List.mem_filter.1 hx
   refine⟨⟨x.bf,x.by_⟩,List.mem_filter.2 ⟨?_,List.any_eq_true.2 ⟨x,h1,by simp[slEq]⟩⟩,rfl⟩
   rcases WaO (WaG v h1) with h | h
   ·simp only[Slip.mk.injEq]at h
    simp[byN,h.2]at h2
   ·exact h
end Go.Proofs
end
section
open Go Go.LL
namespace Go.Proofs
theorem Wbc {α:Type}[Enc α]{H0 H:Hp}{E:TypeId}{v:Value}{l:List α}{b:Option Nat}(h:Own H0 H E v l b):∃ A c,v=.slice A l.length c:=by
 obtain⟨A,c,h1,_⟩:=h.sl
 exact⟨A,c,h1⟩
section
variable  {P:Prg}[Tz P][Loud P]{H:Hp}
set_option maxHeartbeats 8000000
set_option maxRecDepth 40000
theorem WaH {u w:Value}{a:List Int}(ha:SlAt H u a)(hb:SlAt H w a)(hl:a.length<=1000000):LL.Zag P 25 #[u,w] H fun v H'=>H=H'∧v=vb true:=
 LL.Zag.mono (Zia ha hb hl hl) fun v H' h=>⟨h.1,h.2.trans (by rw[decide_eq_true rfl])⟩
end
end Go.Proofs
end
section
open Go Go.LL
namespace Go.Proofs
theorem Wag (l:List U16)(i:Int):0<=Zgj l i∧Zgj l i<65536:=by
 unfold Zgj
 split
 ·exact⟨l[i.toNat].lo,l[i.toNat].hi⟩
 ·omega
section
variable  {P:Prg}[Tz P][Loud P]{H:Hp}
set_option maxHeartbeats 4000000
set_option maxRecDepth 20000
end
end Go.Proofs
end
section
open Go Go.LL Go.Conc Go.ConcM
namespace Go.Proofs
open YtamdhefhhdgjbaaGreatDoor Go.ChangeShapes Go.WideShapes
section
set_option maxRecDepth 100000
variable  {H:Type}{enc:TypeId×Value->H}{W:World}{base:Nat}{sp:Nat->Bool}{held:Bool}{fuel:Nat}{cs:List Value}{y:DataW H×List MemPlace}{r:Reach}{b0:Nat}{v:Value}{d:DataW H}{ps:List MemPlace}
theorem u16_trod (h:DataW.trod enc Tryz.prog W base sp held fuel 168 cs=some y):∃ u:U16,cs=Enc.enc u:=by
 obtain⟨n,rfl,_,hw⟩:=DataW.trod_int Tryz.underlying168 h
 simp only[Lit.wf,Bool.and_eq_true,decide_eq_true_eq]at hw
 have h1:IntKind.u16.min=0:=rfl
 have h2:IntKind.u16.max=65535:=rfl
 exact⟨⟨n,by omega,by omega⟩,rfl⟩
theorem cells168:Tryz.prog.cellsOf 168=1:=by kernel_rfl
theorem under72:Tryz.prog.underlying 72=some (.slice 168):=by kernel_rfl
theorem open_sl {α:Type}[Enc α]{t e:TypeId}(ht:Tryz.prog.underlying t=some (.slice e))(hc:Tryz.prog.cellsOf e=Enc.sz α)(hpos:0<Enc.sz α)
  (hel:∀ {n:Nat} {cs:List Value} {y:DataW H×List MemPlace},DataW.trod enc Tryz.prog W base sp held n e cs=some y->∃ x:α,cs=Enc.enc x)
  (hval:Value.okWide Tryz.prog W r b0 t v) (hd:DataW.Trod enc Tryz.prog W base sp held t v d ps):∃ l:List α,SlAt (roW W) v l:=by
 obtain⟨fuel,hf⟩:=hd
 obtain⟨a,len,cap,rfl⟩:=okWide_slice ht hval
 obtain⟨v,hv,l,hl⟩:=ZlR ht hc hpos hel hf
 have:Value.slice a len cap=v:=by simpa[Value.cells]using hv
 exact⟨l,this ▸ hl⟩
theorem WbB (hval:Value.okWide Tryz.prog W r b0 72 v)(hd:DataW.Trod enc Tryz.prog W base sp held 72 v d ps):∃ l:List U16,SlAt (roW W) v l:=
 open_sl under72 cells168 (by decide) u16_trod hval hd
end
end Go.Proofs
end
section
open Go Go.LL Go.Conc Go.ConcM
namespace Go.Proofs.YtamdhefhhdgjbaaGreatDoor
theorem Wa0:Tryz.pinned.checked.prog.funcNamed Rows.spileEndsRow.func=some 14:=by kernel_rfl
theorem WaZ:joinedFacts Tryz.pinned.checked.prog 14 Tryz.f14 Rows.spileEndsSpec Rows.spileEndsRow=true:=by kernel_rfl
theorem WaY:Tryz.f14.isInstance Tryz.pinned.checked.prog Rows.spileEndsRow.origin Rows.spileEndsRow.targs:=of_decide_eq_true (by kernel_rfl)
theorem WaX:Tryz.f14.isWrapper Tryz.pinned.checked.prog Rows.spileEndsRow.wrapper Rows.spileEndsRow.mainSum:=by unfold Func.isWrapper;first | (rw[if_pos (by decide +kernel)];kernel_rfl) | (rw[if_neg (by decide +kernel)];exact⟨rfl,rfl⟩)
end Go.Proofs.YtamdhefhhdgjbaaGreatDoor
end
