/- proofs about Leango given: part Rl0; made by a program out of the longer texts in wip -/
import Derived.Test.YtamdhefhhdgjbaaGreatDoorP44
set_option linter.all false
section
namespace Go.LL
section
variable  {P:Prg}{d:Option Nat}{r:List NI}{op:NOp}{Q:NSt->Hp->Prop}{next:NSt->Hp->Prop}{σ:NSt}{H:Hp}{x y z:Operand}{v:Value}
variable  {l:List (NI×Option Bool)}
variable  {Qe:Ex->NSt->Hp->Prop}{a b c:Zai}
end
section
variable  {P:Prg}{σ:NSt}{H:Hp}{Qe:Ex->NSt->Hp->Prop}{b:Zai}
theorem Wbu {n j:Nat}{I:Nat->Hp->Prop}{env:Nat->List (Nat×Value)}{box:Nat->List (Nat×List Value)}{σ':NSt}{ds:List Deferred}(hj:j<n)(hI:I (j+1) H)(he:LeE (env (j+1)) σ')(hb:LeB (box (j+1)) σ')(hd:σ'.defs=ds) :
  ∃ j':{ j:Nat // j<=n },n-j'.1<n-j∧I j'.1 H∧LeE (env j'.1) σ'∧LeB (box j'.1) σ'∧σ'.defs=ds:=⟨⟨j+1,hj⟩,by show n-(j+1)<n-j;omega,hI,he,hb,hd⟩
end
end Go.LL
end
section
namespace Go.LL
section
variable  {P:Prg}{d:Option Nat}{next:NSt->Hp->Prop}{σ:NSt}{H:Hp}{x y z:Operand}{v:Value}{ty:TypeId}
theorem Wbr {k:IntKind}{m n:Int}{t t2:TypeId}(e1:σ.get x=some (.int k m))(e2:σ.get y=some (.int k n))(hn:n≠0)(h:next (σ.set d (.int k (m.tmod n))) H):(NOp.pur (.binOp .rem t x y t2) ty).m P d next σ H:=by
 refine Zcb (by simp[Op.operands,e1,e2]) ?_ h
 have:execOp (fun x=>(σ.get x).getD undef) (bare (.binOp .rem t x y t2) ty)=pure (.value (.int k (m.tmod n))):=by simp[execOp,bare,e1,e2,eqGuard,binOp,Op.intDiv,hn]
 rw[this]
 exact fun Q g H hq=>hq
end
end Go.LL
end
section
open Go Go.LL Go.Z
namespace Go.Proofs
def n73:Zai:=(sq [o 2 (.lbox 2 [2,10,17,31,39,44] (t 0)),o 4 (.mov (.const s0)),o 5 (.lzero 5 [5] [z0,z0])] (sq [o 6 (.mov (.const s0))] (.seq (sq [mi 7 0] (.block 0 (.loop (.seq (sq [m 9 7,f 10 2 2,ln 11 2 10,le 12 11,b 13 .lss 9 12] (.cond (t 13) .skip (.exit 0))) (.seq (.block 1 (.drawn [(m 16 6,none),(f 17 2 2,none),(ln 18 2 17,none),(m 19 7,none),(ia 20 5 18 19,none),(o 21 (.fadr 0 (t 20)),none),(lm 22 2 21,none),(m 23 1,none),(m 24 7,none),(c2 25 58 23 24,(some true)),(c2 26 136 22 25,(some false)),(o 27 (.buildS 3 1 [z0] [(0,(1,(t 26)))]),(some false)),(o 28 (.raw (.call (.mk (.builtin .append) #[(t 16),(t 27)] #[34,34])) 34),none),(m 6 28,none)])) (.ops [m 14 7,bk 15 .add 14 1,m 7 15])))))) (.seq (.drawn [(m 29 1,none),(f 31 2 2,none),(ln 32 2 31,none),(le 33 32,none),(bk 34 .sub 33 1,none),(m 37 1,none),(f 39 1 2,none),(ln 40 2 39,none),(o 41 (.bin .mul (k 2) (t 40)),none),(bk 42 .add 41 1,none),(f 44 1 2,none),(ln 45 2 44,none),(o 8 (.lzero 8 [8,48,51] [z0,z0]),none),(o 30 (.call 58 [(t 29),(k 4)]),(some false)),(o 35 (.pur (.binOp .rem 3 (t 30) (t 34) 3) 3),none),(o 36 (.bin .add (k 1) (t 35)),none),(o 38 (.call 58 [(t 37),(k 5)]),(some false)),(o 43 (.pur (.binOp .rem 3 (t 38) (t 42) 3) 3),none),(b 46 .sub 43 45,none),(o 47 (.build [z0,z0] [(0,(1,(t 36))),(1,(1,(t 46)))]),none),(ls 8 2 8 47,none)]) (.seq (sq [f 48 1 8,ln 49 8 48,bk 50 .eql 49 0] (.cond (t 50) (.ops [f 51 0 8,u (.lst 8 1 51 (k 0))]) .skip)) (.seq (.drawn [(m 52 6,none),(l 53 8 2 8,none),(m 4 52,none),(ls 5 2 5 53,none)]) .ret))))))
def r73:List NRes:=[(.slot 4),(.var 5 5 (some 2))]
theorem c73:IsN Tryz.prog 73 2 n73 r73:=isq [(2,2),(5,5),(8,8),(10,2),(17,2),(31,2),(39,2),(44,2),(48,8),(51,8)] Tryz.func73
def n83:Zai:=(sq [o 2 (.lbox 2 [2,12,18] (t 0)),o 4 (.lzero 4 [4] [z0,z0,s0,s0])] (sq [l 9 2 4 2,o 5 (.lzero 5 [5,10,40,45] [z0,z0,s0,s0]),ls 5 4 5 9] (sq [f 10 3 5,u (.lst 5 1 10 (.const s0))] (.seq (sq [mi 6 0] (.block 0 (.loop (.seq (sq [m 11 6,f 12 3 2,ln 13 2 12,le 14 13,b 15 .lss 11 14] (.cond (t 15) .skip (.exit 0))) (.seq (.block 1 (sq [f 18 3 2,ln 19 2 18,m 20 6,ia 21 3 19 20,lm 22 3 21,o 7 (.lzero 7 [7,24,29,30,34,35,39] [z0,z0,z0]),ls 7 3 7 22] (sq [m 23 1,f 24 0 7,ln 25 7 24,ia 26 1 23 25,ld 27 26,m 8 27] (sq [m 28 8,f 29 1 7,f 30 0 29,ln 31 7 30,o 32 (.pur (.call (.mk (.builtin .min) #[(t 28),(t 31)] #[3,3])) 3),m 33 8,f 34 1 7,f 35 1 34,ln 36 7 35,o 37 (.pur (.call (.mk (.builtin .max) #[(t 33),(t 36)] #[3,3])) 3),c2 38 62 32 37,f 39 1 7,ls 7 2 39 38] (.ops [f 40 3 5,ln 41 5 40,l 42 7 3 7,o 43 (.buildS 51 1 [z0,z0,z0] [(0,(3,(t 42)))]),o 44 (.raw (.call (.mk (.builtin .append) #[(t 41),(t 43)] #[23,23])) 23),f 45 3 5,ls 5 1 45 44]))))) (.ops [m 16 6,bk 17 .add 16 1,m 6 17])))))) (sq [l 46 5 4 5,ls 4 4 4 46] .ret)))))
def r83:List NRes:=[(.var 4 4 (some 4))]
theorem c83:IsN Tryz.prog 83 2 n83 r83:=isq [(2,2),(4,4),(5,5),(7,7),(10,5),(12,2),(18,2),(24,7),(29,7),(30,7),(34,7),(35,7),(39,7),(40,5),(45,5)] Tryz.func83
end Go.Proofs
end
section
open Go Go.LL Go.Z
namespace Go.Proofs
def n79:Zai:=(sq [o 3 (.lbox 3 [3,26] (t 0)),o 5 (.lbox 5 [5] (t 2)),m0 6,mi 7 0] (sq [l 15 3 4 3,m 16 1,l 17 5 2 5,c3 18 137 15 16 17,m 14 18,x 19 14 0,x 20 14 1,x 21 14 2,o 8 (.lzero 8 [8] [z0,z0,s0,s0]),o 9 (.lzero 9 [9,36,37,56] [z0,z0,z0,z0,z0,z0]),ls 8 4 8 19,ls 9 6 9 20,m 10 21] (.seq (sq [m 22 10,bk 23 .neq 22 0] (.cond (t 23) (sq [m 24 10,m0 6,m 7 24] .ret) .skip)) (sq [l 25 9 6 9,o 11 (.lzero 11 [11,47,48,54] [z0,z0,z0,z0,z0,z0]),ls 11 6 11 25] (.seq (sq [f 26 2 3,ln 27 3 26,le 28 27,mi 29 0] (.block 0 (.loop (sq [b 30 .lss 29 28] (.seq (.cond (t 30) .skip (.exit 0)) (.seq (.block 1 (sq [m 31 29,ia 32 5 27 29,lm 33 5 32,o 13 (.lzero 13 [13,39,40,43,44] [z0,z0,z0,z0,z0]),m 12 31,ls 13 5 13 33] (.drawn [(m 34 12,none),(m 35 12,none),(f 36 0 9,none),(o 37 (.liadr 1 4 36 (t 35)),none),(ln 38 9 37,none),(f 39 0 13,none),(f 40 0 39,none),(ln 41 13 40,none),(o 42 (.pur (.call (.mk (.builtin .max) #[(t 38),(t 41)] #[3,3])) 3),none),(f 43 0 13,none),(f 44 1 43,none),(ln 45 13 44,none),(o 46 (.pur (.call (.mk (.builtin .min) #[(t 42),(t 45)] #[3,3])) 3),none),(f 47 0 11,none),(o 48 (.liadr 1 4 47 (t 34)),none),(ls 11 1 48 46,none)]))) (.ops [bk 49 .add 29 1,m 29 49]))))))) (sq [l 50 11 6 11,l 51 9 6 9,o 52 (.pur (.binOp .eql 121 (t 50) (t 51) 121) 4),m 53 52,gt 53 54 (.lfadr 0 11),gt 53 55 (.lld 11 (some 4) 54),gt 53 56 (.lfadr 0 9),gt 53 57 (.lld 9 (some 4) 56),gt 53 58 (.pur (.binOp .eql 119 (t 55) (t 57) 119) 4),pa 59 53 58,m 60 59,gt 60 61 (.lld 8 (some 4) 8),gt 60 62 (.lld 9 (some 6) 9),gt 60 63 (.call 140 [(t 61),(t 62)]),pa 64 60 63,m 6 64,mi 7 0] .ret))))))
def r79:List NRes:=[(.slot 6),(.slot 7)]
theorem c79:IsN Tryz.prog 79 3 n79 r79:=isq [(3,3),(5,5),(8,8),(9,9),(11,11),(13,13),(26,3),(36,9),(37,9),(39,13),(40,13),(43,13),(44,13),(47,11),(48,11),(54,11),(56,9)] Tryz.func79
def n84:Zai:=(sq [m0 4] (sq [m 5 0,bk 6 .neq 5 1,m 7 6,mf 7 8 1,po 9 7 8,m 10 9,mt 10 11 0,gt 10 12 (.bin .neq (t 11) (k 2)),mt 10 13 12,mf 13 14 1,gf 13 15 (.not (t 14)),gt 10 16 (.pick (t 13) k1 (t 15)),pa 17 10 16,m 4 17] .ret))
def r84:List NRes:=[(.slot 4)]
theorem c84:IsN Tryz.prog 84 2 n84 r84:=isq [] Tryz.func84
end Go.Proofs
end
section
open Go Go.LL Go.Z
namespace Go.Proofs
def n50:Zai:=(sq [m0 4] (.seq (sq [mi 5 0] (.block 0 (.loop (.seq (sq [m 6 5,m 7 0,le 8 7,b 9 .lss 6 8] (.cond (t 9) .skip (.exit 0))) (.seq (.block 1 (sq [m 12 0,m 13 5,ia 14 1 12 13,ld 15 14,m 16 1,b 17 .eql 15 16] (.cond (t 17) (sq [m1 4] .ret) .skip))) (.ops [m 10 5,bk 11 .add 10 1,m 5 11])))))) (sq [m0 4] .ret)))
def r50:List NRes:=[(.slot 4)]
theorem c50:IsN Tryz.prog 50 2 n50 r50:=isq [] Tryz.func50
def n55:Zai:=(sq [o 3 (.lbox 3 [3] (t 1)),m0 4] (.seq (sq [mi 5 0] (.block 0 (.loop (.seq (sq [m 6 5,m 7 0,le 8 7,b 9 .lss 6 8] (.cond (t 9) .skip (.exit 0))) (.seq (.block 1 (.seq (.drawn [(m 12 0,none),(m 13 5,none),(ia 14 2 12 13,none),(lm 15 2 14,none),(l 16 3 2 3,none),(o 17 (.pur (.binOp .eql 70 (t 15) (t 16) 70) 4),none)]) (.cond (t 17) (sq [m1 4] .ret) .skip))) (.ops [m 10 5,bk 11 .add 10 1,m 5 11])))))) (sq [m0 4] .ret)))
def r55:List NRes:=[(.slot 4)]
theorem c55:IsN Tryz.prog 55 2 n55 r55:=isq [(3,3)] Tryz.func55
def n75:Zai:=(sq [o 3 (.lbox 3 [3,16] (t 0)),o 5 (.lbox 5 [5,24,28] (t 2)),o 6 (.mov (.const s0))] (sq [o 7 (.mov (.const s0))] (.seq (sq [mi 8 0] (.block 0 (.loop (.seq (sq [m 10 8,m 11 1,le 12 11,b 13 .lss 10 12] (.cond (t 13) .skip (.exit 0))) (.seq (.block 1 (.seq (.drawn [(f 16 0 3,none),(ln 17 3 16,none),(m 18 1,none),(m 19 8,none),(ia 20 1 18 19,none),(ld 21 20,none),(b 22 .sub 17 21,none),(m 9 22,none)]) (.seq (sq [m 23 8,f 24 0 5,ln 25 5 24,b 26 .geq 23 25] (.cond (t 26) (.ops [m 27 9,f 28 1 5,ln 29 5 28,b 30 .add 27 29,m 9 30]) .skip)) (.ops [m 31 7,m 32 9,o 33 (.buildS 3 1 [z0] [(0,(1,(t 32)))]),o 34 (.raw (.call (.mk (.builtin .append) #[(t 31),(t 33)] #[34,34])) 34),m 7 34])))) (.ops [m 14 8,bk 15 .add 14 1,m 8 15])))))) (sq [m 35 7,m 6 35] .ret))))
def r75:List NRes:=[(.slot 6)]
theorem c75:IsN Tryz.prog 75 3 n75 r75:=isq [(3,3),(5,5),(16,3),(24,5),(28,5)] Tryz.func75
end Go.Proofs
end
section
open Go Go.LL Go.Z
namespace Go.Proofs
def n136:Zai:=(sq [o 2 (.lbox 2 [2,5,8,10] (t 0)),mi 4 0] (.seq (.drawn [(f 5 0 2,none),(ln 6 2 5,none),(m 7 1,none),(f 8 1 2,none),(ln 9 2 8,none),(f 10 0 2,none),(ln 11 2 10,none),(b 12 .sub 9 11,none),(bk 13 .add 12 1,none),(o 14 (.pur (.binOp .rem 3 (t 7) (t 13) 3) 3),none),(b 15 .add 6 14,none),(m 4 15,none)]) .ret))
def r136:List NRes:=[(.slot 4)]
theorem c136:IsN Tryz.prog 136 2 n136 r136:=isq [(2,2),(5,2),(8,2),(10,2)] Tryz.func136
end Go.Proofs
end
section
open Go Go.LL
namespace Go.Proofs
theorem a119:Zb7 Tryz.prog 119=some (some 4):=by kernel_rfl
section
variable  {P:Prg}[Tz P]{H:Hp}
set_option maxHeartbeats 400000
end
end Go.Proofs
end
section
open Go Go.LL
namespace Go.Proofs
theorem s121:spf Tryz.prog 121=some ([("marks",119,0),("slip",70,4)],false):=by kernel_rfl
theorem a70:Zb7 Tryz.prog 70=some (some 2):=by kernel_rfl
section
variable  {P:Prg}[Tz P]{H:Hp}{g:Bool}{d:Nat}
theorem partA {t n:Nat}{cs:Array Value}{off:Nat}(h:Zb7 Tryz.prog t=some (some n))(Q:Value->Bool->Hp->Prop):wpL P.toPQ (part t cs off) Q g H↔Q (.agg (cs.extract off (off+n))) g H:=by
 obtain⟨i,h1,h2,h3⟩:=ZcM (agf (P:=P) h)
 simp only[part,Zaa,h3,if_true,Zap h1,h2,Zac]
end
end Go.Proofs
end
section
open Go Go.LL
namespace Go.Proofs
theorem g119:eqGB Tryz.prog 119=false:=by kernel_rfl
theorem g121:eqGB Tryz.prog 121=false:=by kernel_rfl
section
variable  {P:Prg}[Tz P]{H:Hp}{d:Option Nat}{next:NSt->Hp->Prop}{σ:NSt}{x y:Operand}{ty t2:TypeId}{v:Value}
end
end Go.Proofs
end
section
open Go Go.LL
namespace Go.Proofs
theorem eq121 {P:Prg}[Tz P]{H:Hp}{g:Bool}{d:Nat}{a b:Boat}(Q:Bool->Bool->Hp->Prop)(hq:Q (n4Eq a.m b.m && decide (a.bf=b.bf∧a.by_=b.by_)) g H):wpL P.toPQ (Op.equalIn (d+1+1+1) 121 (ZaJ a) (ZaJ b)) Q g H:=by
 have p1:∀ (x:Boat) (Q:Value->Bool->Hp->Prop) g H,wpL P.toPQ (part 119 #[vi x.m.a,vi x.m.b,vi x.m.c,vi x.m.d,vi x.bf,vi x.by_] 0) Q g H↔Q (numV x.m) g H:=fun x Q g H=>partA a119 Q
 have p2:∀ (x:Boat) (Q:Value->Bool->Hp->Prop) g H,wpL P.toPQ (part 70 #[vi x.m.a,vi x.m.b,vi x.m.c,vi x.m.d,vi x.bf,vi x.by_] 4) Q g H↔Q (.agg #[vi x.bf,vi x.by_]) g H:=fun x Q g H=>partA a70 Q
 obtain⟨f1,f2,hu,⟨n1,t1,o1⟩,⟨n2,t2,o2⟩,hs⟩:=spf2 (p:=P.toProgram) (by rw[Tz.prog (P:=P)];exact s121)
 rw[Op.equalIn]
 simp only[ZaJ,Zaa,Zad hu,ZaU,hs,Bool.false_eq_true,if_false,Zac]
 simp only[n1,n2,t1,t2,o1,o2,Zaa,List.forIn_toArray,List.forIn_cons,List.forIn_nil,p1,p2]
 have hnn:∀ s:String,(s == "marks")=(s == "marks"):=fun _=>rfl
 by_cases h1:n4Eq a.m b.m=true
 ·rw[h1,Bool.true_and]at hq
  simp[Zaa,Zac,p1,p2]
  refine eq119 _ ?_
  rw[h1]
  simp[Zaa,Zac,p1,p2]
  refine eqP (.inl s70) _ ?_
  by_cases h2:a.bf=b.bf∧a.by_=b.by_
  ·simp only[h2,and_self,decide_true]at hq
   simp[h2,Zaa,Zac];exact hq
  ·simp only[h2,decide_false]at hq
   simp[h2,Zaa,Zac];exact hq
 ·have h1:n4Eq a.m b.m=false:=by simpa using h1
  rw[h1,Bool.false_and]at hq
  simp[Zaa,Zac,p1,p2]
  refine eq119 _ ?_
  rw[h1]
  simp[Zaa,Zac]
  exact hq
def Wac (b:Bk)(x:Boat)(j:Nat):N4:=.of fun i=>if i<j then min (max (x.m.get i) (ptAt b i).ml) (ptAt b i).mh else x.m.get i
def WaG (b:Bk)(x:Boat):Bool:=n4Eq (Wac b x b.pts.length) x.m && ZgQ b x
theorem clamp0 (b:Bk)(x:Boat):Wac b x 0=x.m:=N4.ext' fun j hj=>by rw[Wac,N4.of_get _ hj,if_neg (by omega)]
theorem WbI {b:Bk}{x:Boat}{j:Nat}(hj:j<4):(Wac b x j).put j (min (max (x.m.get j) (ptAt b j).ml) (ptAt b j).mh)=Wac b x (j+1):=by
 refine N4.ext' fun i hi=>?_
 rw[N4.put_get _ _ hi,Wac,Wac,N4.of_get _ hi,N4.of_get _ hi]
 by_cases e:i=j
 ·subst e;rw[if_pos rfl,if_pos (by omega)]
 ·rw[if_neg e]
  by_cases e2:i<j
  ·rw[if_pos e2,if_pos (by omega)]
  ·rw[if_neg e2,if_neg (by omega)]
theorem spliceB (x:Boat){j:Nat}(v:Int)(hj:j<4):ZaN x.cells (0+j * 1) [vi v]=(⟨x.m.put j v,x.bf,x.by_⟩:Boat).cells:=by
 match j,hj with
 | 0,_=>rfl
 | 1,_=>rfl
 | 2,_=>rfl
 | 3,_=>rfl
def WaF (b:Bk)(l:List Int)(k:Slip):Value:=if ZaA b l k=0 then .tuple #[vb (WaG b (Zgk l k)),vi 0] else .tuple #[vb false,vi (ZaA b l k)]
section
variable  {P:Prg}[Tz P][Loud P]{H:Hp}
set_option maxHeartbeats 1000000
theorem Wcb {bv lv:Value}{b:Bk}{l:List Int}{k:Slip}(hb:BkAt H bv b)(hlv:SlAt H lv l)(hg:Za8 H)(hl:b.pts.length<=1000000)(hl2:b.cks.length<=1000000)(hl3:l.length<=1000000) :
  LL.Zag P 79 #[bv,lv,ZbG k] H fun v H'=>Inc H H'∧v=WaF b l k:=by
 have hs:∀ g,P.still g=false:=Loud.loud
 have hb0:=hb
 obtain⟨pv,cv,rfl,hp,hc⟩:=hb
 refine IsN.m (isn c79) (args:=[.agg #[vi b.op,vi b.sl,pv,cv],lv,ZbG k]) rfl ?_
 unfold n79
 refine wkT ?_
 refine Zab (vs:=[.agg #[vi b.op,vi b.sl,pv,cv],lv,ZbG k]) rfl (ZmD hb0 hlv hg hl hl2 hl3) ?_
 rintro v H1 ⟨hi1,rfl⟩
 by_cases h:ZaA b l k=0
 ·obtain⟨val,e1,i99,hby⟩:=handed0 h
  have hn:=val.n
  have hx:In99 (Zgk l k).m∧-3<=(Zgk l k).by_∧(Zgk l k).by_<=3:=⟨i99,hby⟩
  rw[ZdS,if_pos h,WaF,if_pos h]
  show NOp.m _ _ _ _ _ _
  have ep:(⟨n4of l,k.bf,k.by_⟩:Boat)=Zgk l k:=rfl
  rw[ep]
  generalize Zgk l k=x at *
  obtain⟨Ac,cc,rfl,hc'⟩:=hc
  have hpw:=hp.inc hi1
  obtain⟨Ap,cp,rfl,hp'⟩:=hp
  refine wkT ?_
  refine ZaX b.pts.length (fun j H'=>H1=H') (fun j=>[(3,vi 0),(8,vi 0),(9,vi 0),(11,vi 0),(6,vb false),(7,vi 0),(27,.slice Ap b.pts.length cp),(28,vi b.pts.length),(29,vi j)])
   (fun j=>[(3,[vi b.op,vi b.sl,.slice Ap b.pts.length cp,.slice Ac b.cks.length cc]),(8,[vi b.op,vi b.sl,.slice Ap b.pts.length cp,.slice Ac b.cks.length cc]),(9,x.cells),(11,(⟨Wac b x j,x.bf,x.by_⟩:Boat).cells)]) rfl ⟨rfl,rfl,rfl,rfl,rfl,rfl,rfl,rfl,rfl,trivial⟩ ⟨rfl,rfl,rfl,?_,trivial⟩ ?_
  ·rw[clamp0];rfl
  rintro j _ hj rfl
  refine wkT ?_
  refine wiT (fun h1=>?_) (fun h1=>?_)
  ·have hj4:j<4:=by omega
   have hjl:j<b.pts.length:=by omega
   have ept:ptAt b j=b.pts[j]:=Zbd hjl _
   refine wkT ?_
   refine ZaE hpw rfl rfl rfl (i:=j) hjl fun a ha=>?_
   refine wkT ?_
   refine Zao (hs _) rfl ha rfl ?_
   rw[<-ept]at *
   generalize hq:ptAt b j=q at *
   refine wkT ?_
   refine ZcB rfl rfl hj4 ?_
   refine wkT ?_
   refine Zdg (hs _) rfl rfl (boat_get x hj4) ?_
   refine wkT ?_
   refine om_max rfl rfl ?_
   refine wkT ?_
   refine om_min rfl rfl ?_
   refine wkT ?_
   refine ZcB rfl rfl hj4 ?_
   refine wkT ?_
   refine Zkb (hs _) rfl rfl rfl rfl (by show 0+j * 1+1<=6;omega) rfl ?_
   refine wkT ?_
   refine⟨⟨j+1,by omega⟩,Nat.sub_lt_sub_left (by omega) (Nat.lt_succ_self j),rfl,⟨rfl,rfl,rfl,rfl,rfl,rfl,rfl,rfl,rfl,trivial⟩,⟨rfl,rfl,rfl,?_,trivial⟩,rfl⟩
   show some (ZaN (⟨Wac b x j,x.bf,x.by_⟩:Boat).cells (0+j * 1) [vi (min (max (x.m.get j) q.ml) q.mh)])=some _
   rw[spliceB _ _ hj4,<-WbI hj4,hq]
  ·have:j=b.pts.length:=by omega
   subst this
   refine wkT ?_
   refine om_eqS (b:=n4Eq (Wac b x b.pts.length) x.m) g121 (fun Q g H hq=>eq121 (a:=⟨Wac b x b.pts.length,x.bf,x.by_⟩) (b:=x) Q (by simpa using hq)) rfl rfl ?_
   cases hq:n4Eq (Wac b x b.pts.length) x.m
   ·refine wkT ?_
    refine⟨hi1,?_⟩
    rw[WaG,hq];rfl
   ·refine wkT ?_
    refine om_eqS (b:=true) g119 (fun Q g H hq'=>eq119 (a:=Wac b x b.pts.length) (b:=x.m) Q (by rw[hq];exact hq')) rfl rfl ?_
    refine wkT ?_
    refine Zab (vs:=[.agg #[vi b.op,vi b.sl,.slice Ap b.pts.length cp,.slice Ac b.cks.length cc],ZaJ x]) rfl (right_ok (hb0.inc hi1) val.good.bk (Zdr hx) val.good.cks (by have:=val.ckn;omega) (hs _)) ?_
    rintro v H2 ⟨hs2,rfl⟩
    refine wkT ?_
    refine⟨hi1.trans hs2.inc,?_⟩
    rw[WaG,hq];rfl
 ·rw[ZdS,if_neg h,WaF,if_neg h]
  refine wkT ?_
  refine wiT (fun h1=>?_) (fun h1=>?_)
  ·refine wkT ?_
   exact⟨hi1,rfl⟩
  ·exact absurd h1 h
end
end Go.Proofs
end
section
open Go Go.LL Go.Z
namespace Go.Proofs
def n16:Zai:=(sq [o 3 (.lbox 3 [3,57] (t 0)),m0 6] (.seq (sq [l 38 3 4 3,c1 39 48 38,o 40 (.not (t 39))] (.cond (t 40) (sq [c0 41 18,m 6 41] .ret) .skip)) (sq [l 43 3 4 3,m 44 1,c2 45 73 43 44,m 42 45,x 46 42 0,x 47 42 1,o 8 (.lzero 8 [8,204,211,216] [z0,z0]),m 7 46,ls 8 2 8 47] (sq [l 48 3 4 3,m 49 7,l 50 8 2 8,c3 51 75 48 49 50,m 9 51] (sq [l 52 3 4 3,m 53 9,c2 54 83 52 53,ls 3 4 3 54] (sq [m 55 2,o 56 (.pur (.convert 5 3 (t 55)) 3),f 57 2 3,ln 58 3 57,le 59 58,o 60 (.pur (.binOp .rem 3 (t 56) (t 59) 3) 3),m 10 60] (sq [l 62 3 4 3,m 63 7,l 64 8 2 8,c3 65 74 62 63 64,m 61 65,x 66 61 0,x 67 61 1,m 11 66,m 12 67] (sq [l 69 3 4 3,m 70 7,l 71 8 2 8,c3 72 79 69 70 71,m 68 72,x 73 68 0,x 74 68 1,m 13 73,m 14 74] (sq [l 76 3 4 3,c1 77 19 76,m 75 77,x 78 75 0,x 79 75 1,m 15 78,m 16 79] (sq [l 81 3 4 3,c1 82 37 81,m 80 82,x 83 80 0,x 84 80 1,m 17 83,m 18 84] (sq [l 86 3 4 3,c1 87 21 86,m 85 87,x 88 85 0,x 89 85 1,m 19 88,m 20 89] (sq [l 91 3 4 3,c1 92 23 91,m 90 92,x 93 90 0,x 94 90 1,m 21 93,m 22 94] (sq [l 96 3 4 3,c1 97 26 96,m 95 97,x 98 95 0,x 99 95 1,m 23 98,m 24 99] (sq [l 101 3 4 3,m 102 10,c2 103 29 101 102,m 100 103,x 104 100 0,x 105 100 1,m 25 104,m 26 105] (sq [l 107 3 4 3,m 108 9,c2 109 59 107 108,m 106 109,x 110 106 0,x 111 106 1,x 112 106 2,o 27 (.lzero 27 [27,238,240] [z0,z0]),ls 27 2 27 110,m 28 111,m 29 112] (sq [l 114 3 4 3,c1 115 31 114,m 113 115,x 116 113 0,x 117 113 1,m 30 116,m 31 117] (sq [l 119 3 4 3,c1 120 33 119,m 118 120,x 121 118 0,x 122 118 1,x 123 118 2,m 32 121,m 33 122,m 34 123] (sq [l 125 3 4 3,c1 126 35 125,m 124 126,x 127 124 0,x 128 124 1,x 129 124 2,m 35 127,m 36 128,m 37 129] (.seq (sq [m 130 12,bk 131 .neq 130 0,m 132 131,mf 132 133 14,gf 132 134 (.bin .neq (t 133) (k 0)),po 135 132 134,m 136 135,mf 136 137 16,gf 136 138 (.bin .neq (t 137) (k 0)),po 139 136 138,m 140 139,mf 140 141 18,gf 140 142 (.bin .neq (t 141) (k 0)),po 143 140 142,m 144 143,mf 144 145 20,gf 144 146 (.bin .neq (t 145) (k 0)),po 147 144 146,m 148 147,mf 148 149 22,gf 148 150 (.bin .neq (t 149) (k 0)),po 151 148 150,m 152 151,mf 152 153 24,gf 152 154 (.bin .neq (t 153) (k 0)),po 155 152 154,m 156 155,mf 156 157 26,gf 156 158 (.bin .neq (t 157) (k 0)),po 159 156 158,m 160 159,mf 160 161 29,gf 160 162 (.bin .neq (t 161) (k 0)),po 163 160 162,m 164 163,mf 164 165 31,gf 164 166 (.bin .neq (t 165) (k 0)),po 167 164 166,m 168 167,mf 168 169 34,gf 168 170 (.bin .neq (t 169) (k 0)),po 171 168 170,m 172 171,mf 172 173 37,gf 172 174 (.bin .neq (t 173) (k 0)),po 175 172 174] (.cond (t 175) (sq [m0 6] .ret) .skip)) (.seq (sq [m 176 11,m 177 9,c2 178 25 176 177,o 179 (.not (t 178)),m 180 179,mf 180 181 13,gf 180 182 (.not (t 181)),po 183 180 182,m 184 183,mf 184 185 15,gf 184 186 (.bin .lss (t 185) (k 1)),po 187 184 186,m 188 187,mf 188 189 17,gf 188 190 (.len (t 189)),gf 188 191 (.bin .gtr (t 190) (k 0)),po 192 188 191,m 193 192,mf 193 194 25,mf 193 195 9,mf 193 196 10,gf 193 197 (.iadr 1 (t 195) (t 196)),gf 193 198 (.ld none (t 197)),gf 193 199 (.call 50 [(t 194),(t 198)]),gf 193 200 (.not (t 199)),po 201 193 200,m 202 201,mf 202 203 19,gf 202 204 (.lfadr 1 8),gf 202 205 (.lld 8 none 204),gf 202 206 (.bin .neq (t 205) (k 0)),gf 202 207 (.call 84 [(t 203),(t 206)]),gf 202 208 (.not (t 207)),po 209 202 208,m 210 209,gf 210 211 (.lfadr 1 8),gf 210 212 (.lld 8 none 211),gf 210 213 (.bin .neq (t 212) (k 0)),mf 210 214 213,mt 214 215 21,gt 214 216 (.lfadr 0 8),gt 214 217 (.lld 8 none 216),gt 214 218 (.call 50 [(t 215),(t 217)]),gt 214 219 (.not (t 218)),mt 214 220 219,mf 220 221 23,gf 220 222 (.lld 8 (some 2) 8),gf 220 223 (.call 55 [(t 221),(t 222)]),gf 220 224 (.not (t 223)),gt 214 225 (.pick (t 220) k1 (t 224)),gf 210 226 (.pick (t 214) (t 225) k0),po 227 210 226] (.cond (t 227) (sq [m0 6] .ret) .skip)) (sq [m 228 30,m 229 28,c2 230 84 228 229,m 231 230,mt 231 232 33,gt 231 233 (.not (t 232)),mt 231 234 233,mf 234 235 28,mf 234 236 235,mt 236 237 32,gt 236 238 (.lfadr 0 27),gt 236 239 (.lld 27 none 238),gt 236 240 (.lfadr 1 27),gt 236 241 (.lld 27 none 240),gt 236 242 (.call 53 [(t 237),(t 239),(t 241)]),gf 234 243 (.pick (t 236) (t 242) k0),mf 234 244 243,mt 244 245 30,gt 244 246 (.bin .eql (t 245) (k 1)),gf 234 247 (.pick (t 244) (t 246) k0),mf 234 248 247,mt 248 249 36,mt 248 250 15,gt 248 251 (.bin .eql (t 249) (t 250)),gf 234 252 (.pick (t 248) (t 251) k0),gt 231 253 (.pick (t 234) k1 (t 252)),pa 254 231 253,m 255 254,mt 255 256 36,mt 255 257 15,gt 255 258 (.bin .leq (t 256) (t 257)),pa 259 255 258,m 260 259,mt 260 261 28,gt 260 262 (.not (t 261)),mt 260 263 262,mf 263 264 36,gf 263 265 (.bin .geq (t 264) (k 1)),gt 260 266 (.pick (t 263) k1 (t 265)),pa 267 260 266,m 268 267,gt 268 269 (.call 18 []),pa 270 268 269,m 6 270] .ret)))))))))))))))))))))
def r16:List NRes:=[(.slot 6)]
theorem c16:IsN Tryz.prog 16 3 n16 r16:=isq [(3,3),(8,8),(27,27),(57,3),(204,8),(211,8),(216,8),(238,27),(240,27)] Tryz.func16
end Go.Proofs
end
section
open Go Go.LL
namespace Go.Proofs
def gapsOfL (b:Bk)(l:List Int)(k:Slip):List Int:=(List.range l.length).map fun i=>b.op-l.getD i 0+if k.bf<=i then k.by_ else 0
section
variable  {P:Prg}[Tz P][Loud P]{H:Hp}
set_option maxHeartbeats 2000000
set_option maxRecDepth 20000
end
end Go.Proofs
end
section
open Go Go.LL
namespace Go.Proofs
theorem WbX {H:Hp}{r:Nat}{E:TypeId}{x:Int}:SlAt (H.ins r (.cells [vi x].toArray E)) (.slice (some ⟨r,0,none⟩) 1 1) [x]:=Za4 (l:=[x])
section
variable  {P:Prg}[Tz P][Loud P]{H:Hp}
set_option maxHeartbeats 2000000
set_option maxRecDepth 20000
theorem Wcc {bv lv:Value}{b:Bk}{l:List Int}{k:Slip}(hb:BkAt H bv b)(hlv:SlAt H lv l)(hl:l.length<=1000000)(ho:Sm b.op)(hsm:∀ x∈l,Sm x)(hk:Sm k.by_) :
  LL.Zag P 75 #[bv,lv,.agg #[vi k.bf,vi k.by_]] H fun v H'=>Inc H H'∧∃ bb,Own H H' 3 v (gapsOfL b l k) bb:=by
 have hs:∀ g,P.still g=false:=Loud.loud
 obtain⟨pv,cv,rfl,hp,hc⟩:=hb
 obtain⟨o1,o2⟩:=ho
 obtain⟨k1,k2⟩:=hk
 refine IsN.m (isn c75) (args:=[.agg #[vi b.op,vi b.sl,pv,cv],lv,.agg #[vi k.bf,vi k.by_]]) rfl ?_
 unfold n75
 refine wkT ?_
 refine ZaP (α:=Value×Option Nat) l.length (fun j s H'=>Inc H H'∧Own H H' 3 s.1 ((gapsOfL b l k).take j) s.2) (fun j s=>[(1,lv),(3,vi 0),(5,vi 0),(7,s.1),(8,vi j)]) (fun _ _=>[(3,[vi b.op,vi b.sl,pv,cv]),(5,[vi k.bf,vi k.by_])]) (.slice none 0 0,none) ⟨.refl H,.nil _ _ _⟩ ⟨rfl,rfl,rfl,rfl,rfl,trivial⟩ ⟨rfl,rfl,trivial⟩ ?_
 rintro j ⟨v7,b7⟩ H1 hj ⟨hi1,o7⟩
 simp only at o7
 have hlen:(gapsOfL b l k).length=l.length:=by simp[gapsOfL]
 refine wkT ?_
 refine Zav (hlv.inc hi1) rfl ?_
 refine wkT ?_
 refine wiT (fun h1=>?_) (fun h1=>?_)
 ·have hj':j<l.length:=by omega
  obtain⟨m1,m2⟩:=hsm l[j] (List.getElem_mem hj')
  have htk:(gapsOfL b l k).take (j+1)=(gapsOfL b l k).take j++[b.op-l[j]+if k.bf<=j then k.by_ else 0]:=by
   rw[List.take_succ_eq_append_getElem (by omega)]
   simp[gapsOfL,List.getD_eq_getElem?_getD,hj']
  have htl:((gapsOfL b l k).take j).length<=j:=by rw[List.length_take];omega
  refine wkT ?_
  refine ZaE (hlv.inc hi1) rfl rfl rfl (i:=j) hj' fun a ha=>?_
  refine wkT ?_
  refine Zaf (hs _) rfl ha ?_
  refine wkT ?_
  refine wiT (fun h2=>?_) (fun h2=>?_)
  ·rw[if_pos h2]at htk
   refine wkT ?_
   refine Zat (cs:=[vi (b.op-l[j]+k.by_)]) (hs _) rfl fun r1 hr1=>?_
   refine wkT ?_
   refine ZbW (l':=[b.op-l[j]+k.by_]) (und u34) (und u34) (tif t3) rfl (by decide) (hi1.trans (Zaj hr1)) (o7.ins hr1) WbX rfl (by simp;omega) (by omega) rfl rfl (hs _) fun v8 H3 b8 g1 g2 g3=>?_
   rw[<-htk]at g2
   refine wkT ?_
   exact⟨(⟨j+1,by omega⟩,(v8,b8)),Nat.sub_lt_sub_left (by omega) (Nat.lt_succ_self j),⟨g1,g2⟩,⟨rfl,rfl,rfl,rfl,rfl,trivial⟩,⟨rfl,rfl,trivial⟩,rfl⟩
  ·rw[if_neg h2,Int.add_zero]at htk
   refine wkT ?_
   refine Zat (cs:=[vi (b.op-l[j])]) (hs _) rfl fun r1 hr1=>?_
   refine wkT ?_
   refine ZbW (l':=[b.op-l[j]]) (und u34) (und u34) (tif t3) rfl (by decide) (hi1.trans (Zaj hr1)) (o7.ins hr1) WbX rfl (by simp;omega) (by omega) rfl rfl (hs _) fun v8 H3 b8 g1 g2 g3=>?_
   rw[<-htk]at g2
   refine wkT ?_
   exact⟨(⟨j+1,by omega⟩,(v8,b8)),Nat.sub_lt_sub_left (by omega) (Nat.lt_succ_self j),⟨g1,g2⟩,⟨rfl,rfl,rfl,rfl,rfl,trivial⟩,⟨rfl,rfl,trivial⟩,rfl⟩
 ·have:j=l.length:=by omega
  subst this
  rw[List.take_of_length_le (by omega)]at o7
  refine wkT ?_
  exact⟨hi1,b7,o7⟩
end
end Go.Proofs
end
section
open Go Go.LL
namespace Go.Proofs
def Wan (b:Bk)(i:Nat):List Int:=(List.range ((ptAt b i).mh-(ptAt b i).ml+1).toNat).map fun (t:Nat)=>(ptAt b i).ml+t
def mkL (b:Bk):Nat->List (List Int)
 | 0=>[[]]
 | i+1=>(mkL b i).flatMap fun l=>(Wan b i).map fun n=>l++[n]
theorem mk_mem {b:Bk}(v:Zeo b):∀ i,i<=b.pts.length->∀ l∈mkL b i,l.length=i∧∀ x∈l,0<=x∧x<=99
 | 0,_,l,hl=>by
  rw[mkL,List.mem_singleton]at hl
  subst hl;simp
 | i+1,hi,l,hl=>by
  rw[mkL,List.mem_flatMap]at hl
  obtain⟨m,hm,hl⟩:=hl
  obtain⟨n,hn,rfl⟩:=List.mem_map.1 hl
  obtain⟨h1,h2⟩:=mk_mem v i (by omega) m hm
  refine⟨by simp[h1],fun x hx=>?_⟩
  rcases List.mem_append.1 hx with hx | hx
  ·exact h2 x hx
  ·rw[List.mem_singleton.1 hx]
   rw[Wan,List.mem_map]at hn
   obtain⟨t,ht,rfl⟩:=hn
   rw[List.mem_range]at ht
   rw[show ptAt b i=b.pts[i] from Zbd (by omega) _]at ht ⊢
   have:=v.pts i (by omega)
   omega
section
variable  {P:Prg}[Tz P][Loud P]{H:Hp}
set_option maxHeartbeats 4000000
set_option maxRecDepth 20000
end
end Go.Proofs
end
section
open Go Go.LL
namespace Go.Proofs
def bodyF (b:Bk)(l:List Int)(ks:List Slip):List Boat:=(ks.map fun k=>(⟨n4of l,k.bf,k.by_⟩:Boat)).filter (ZgQ b)
def Wa3 (hi:Int):Nat->List Int
 | 0=>[]
 | c+1=>(hi-c) :: Wa3 hi c
theorem WaQ (f:Int->List Boat)(hi:Int):∀ c,spanR f hi c=(Wa3 hi c).flatMap f
 | 0=>rfl
 | c+1=>by rw[spanR,Wa3,List.flatMap_cons,WaQ f hi c]
theorem Wa2 {hi:Int}:∀ {c:Nat},(Wa3 hi c).length=c∧∀ t,t<c->(Wa3 hi c)[t]? = some (hi-(c-1-t:Nat))
 | 0=>⟨rfl,fun t h=>by omega⟩
 | c+1=>by
  obtain⟨h1,h2⟩:=@Wa2 hi c
  refine⟨by rw[Wa3,List.length_cons,h1],fun t ht=>?_⟩
  rw[Wa3]
  cases t with
  | zero=>simp
  | succ t=>rw[List.getElem?_cons_succ,h2 t (by omega)];congr 2;omega
theorem spanL_eq {b:Bk}{i:Nat}:Wa3 (ptAt b i).mh ((ptAt b i).mh-(ptAt b i).ml+1).toNat=Wan b i:=by
 obtain⟨h1,h2⟩:=@Wa2 (ptAt b i).mh ((ptAt b i).mh-(ptAt b i).ml+1).toNat
 have hl:(Wan b i).length=((ptAt b i).mh-(ptAt b i).ml+1).toNat:=by simp[Wan]
 refine List.ext_getElem? fun t=>?_
 by_cases ht:t<((ptAt b i).mh-(ptAt b i).ml+1).toNat
 ·rw[h2 t ht,Wan,List.getElem?_map,List.getElem?_range ht]
  show some ((ptAt b i).mh-((((ptAt b i).mh-(ptAt b i).ml+1).toNat-1-t:Nat):Int))=some ((ptAt b i).ml+(t:Int))
  congr 1;omega
 ·rw[List.getElem?_eq_none (by omega),List.getElem?_eq_none (by omega)]
def lvN (b:Bk):Nat->List N4
 | 0=>[⟨0,0,0,0⟩]
 | i+1=>(lvN b i).flatMap fun m=>(Wan b i).map fun n=>m.put i n
theorem Wav {α β γ:Type}(l:List α)(f:α->List β)(g:β->List γ):(l.flatMap f).flatMap g=l.flatMap fun a=>(f a).flatMap g:=by
 induction l with
 | nil=>rfl
 | cons a l ih=>simp[List.flatMap_cons,List.flatMap_append,ih]
theorem Wag {α β γ:Type}(l:List α)(f:α->β)(g:β->List γ):(l.map f).flatMap g=l.flatMap fun a=>g (f a):=by
 induction l with
 | nil=>rfl
 | cons a l ih=>simp[List.flatMap_cons,ih]
theorem WaO {α β:Type}{l:List α}{f g:α->List β}(h:∀ a∈l,f a=g a):l.flatMap f=l.flatMap g:=by
 induction l with
 | nil=>rfl
 | cons a l ih=>rw[List.flatMap_cons,List.flatMap_cons,h a (List.mem_cons_self ..),ih fun x hx=>h x (List.mem_cons_of_mem _ hx)]
theorem lv_step {b:Bk}{r i:Nat}(h:b.pts.length=i+(r+1)):(lvN b (i+1)).flatMap (boatsFrom b r)=(lvN b i).flatMap (boatsFrom b (r+1)):=by
 rw[lvN,Wav]
 congr 1
 funext m
 rw[Wag,boatsFrom,WaQ]
 have e:b.pts.length-(r+1)=i:=by omega
 rw[e,spanL_eq]
theorem lv_all {b:Bk}:∀ (r i:Nat),b.pts.length=i+r->(lvN b i).flatMap (boatsFrom b r)=(lvN b b.pts.length).flatMap (boatsFrom b 0)
 | 0,i,h=>by rw[h,Nat.add_zero]
 | r+1,i,h=>by rw[<-lv_step h];exact lv_all r (i+1) (by omega)
theorem boats_lv (b:Bk):Zae b=(lvN b b.pts.length).flatMap (boatsFrom b 0):=by
 rw[<-lv_all b.pts.length 0 (by omega)]
 simp[lvN,Zae]
theorem Waa {l:List Int}{j:Nat}(hj:j<4):(n4of l).get j=l.getD j 0:=N4.of_get _ hj
theorem lv_mk {b:Bk}(v:Zeo b):∀ i,i<=b.pts.length->lvN b i=(mkL b i).map n4of
 | 0,_=>rfl
 | i+1,hi=>by
  have hi4:i<4:=by have:=v.n;omega
  rw[lvN,lv_mk v i (by omega),mkL,Wag,List.map_flatMap]
  refine WaO fun l hl=>?_
  rw[List.map_map]
  refine List.map_congr_left fun n _=>?_
  obtain⟨h1,_⟩:=mk_mem v i (by omega) l hl
  refine N4.ext' fun j hj=>?_
  rw[N4.put_get _ _ hj,Waa hj]
  show _=(n4of (l++[n])).get j
  rw[Waa hj]
  simp only[List.getD_eq_getElem?_getD]
  by_cases e:j=i
  ·subst e
   rw[if_pos rfl,List.getElem?_append_right (by omega),h1]
   simp
  ·rw[if_neg e]
   by_cases e2:j<i
   ·rw[List.getElem?_append_left (by omega)]
   ·rw[List.getElem?_eq_none (by omega),List.getElem?_eq_none (by rw[List.length_append,List.length_singleton];omega)]
theorem Wby {b:Bk}(v:Zeo b):Zae b=(mkL b b.pts.length).flatMap fun l=>bodyF b l (ZaC b):=by
 rw[boats_lv,lv_mk v _ (Nat.le_refl _),Wag]
 rfl
theorem Wb2 {b:Bk}(v:Zeo b){l:List Int}(hl:l.length=b.pts.length)(k:Slip):gapsOfL b l k=gapLs b ⟨n4of l,k.bf,k.by_⟩:=by
 have h4:=v.n
 have hlen:(gapLs b ⟨n4of l,k.bf,k.by_⟩).length=b.pts.length:=by
  rw[gapLs,List.length_take];show min _ 4=_;omega
 have hl2:(gapsOfL b l k).length=b.pts.length:=by simp[gapsOfL,hl]
 refine List.ext_getElem? fun i=>?_
 by_cases hi:i<b.pts.length
 ·have h44:i<4:=by omega
  rw[gapsOfL,List.getElem?_map,List.getElem?_range (by omega)]
  rw[gapLs,List.getElem?_take_of_lt hi]
  have:(Zas b ⟨n4of l,k.bf,k.by_⟩).list[i]? = some ((Zas b ⟨n4of l,k.bf,k.by_⟩).get i):=by
   match i,h44 with
   | 0,_=>rfl
   | 1,_=>rfl
   | 2,_=>rfl
   | 3,_=>rfl
  rw[this,Zas,N4.of_get _ h44,if_pos hi,Zk9]
  show some _=some _
  rw[Waa h44]
 ·rw[List.getElem?_eq_none (by omega),List.getElem?_eq_none (by omega)]
theorem gap_get {b:Bk}(v:Zeo b)(x:Boat){i:Nat}(hi:i<b.pts.length):(gapLs b x).getD i 0=(Zas b x).get i:=by
 have h4:=v.n
 have h44:i<4:=by omega
 rw[gapLs,List.getD_eq_getElem?_getD,List.getElem?_take_of_lt hi]
 match i,h44 with
 | 0,_=>rfl
 | 1,_=>rfl
 | 2,_=>rfl
 | 3,_=>rfl
section
variable  {P:Prg}[Tz P][Loud P]{H:Hp}
set_option maxHeartbeats 4000000
set_option maxRecDepth 20000
end
end Go.Proofs
end
section
open Go Go.LL
namespace Go.Proofs
def insD (x:Int):List Int->List Int
 | []=>[x]
 | y :: r=>if y<x then y :: insD x r else if y=x then y :: r else x :: y :: r
def ordF (l:List Int):List Int:=l.foldl (fun o x=>insD x o) []
theorem Wbs (x:Int):∀ l,(insD x l).length<=l.length+1
 | []=>by simp[insD]
 | y :: r=>by
  rw[insD]
  have:=Wbs x r
  split
  ·simp only[List.length_cons];omega
  ·split<;>simp
theorem Wbp:∀ l:List Int,(ordF l).length<=l.length:=by
 refine Zfm (by simp[ordF]) fun l x ih=>?_
 have:=Wbs x (ordF l)
 rw[ordF,List.foldl_append,List.length_append,List.length_singleton]
 show (insD x (ordF l)).length<=_
 omega
section
variable  {P:Prg}[Tz P][Loud P]{H:Hp}
set_option maxHeartbeats 4000000
set_option maxRecDepth 20000
end
end Go.Proofs
end
section
open Go Go.LL
namespace Go.Proofs
section
variable  {P:Prg}[Tz P][Loud P]{H:Hp}
set_option maxHeartbeats 4000000
set_option maxRecDepth 20000
def byN (x:Boat):Bool:=!decide (x.by_=0)
end
end Go.Proofs
end
section
open Go Go.LL
namespace Go.Proofs
def slEq (k:Slip)(x:Boat):Bool:=decide (x.bf=k.bf∧x.by_=k.by_)
def Wab (b:Bk):List Slip:=((ZaC b).drop 1).filter fun k=>(Zae b).any (slEq k)
section
variable  {P:Prg}[Tz P][Loud P]{H:Hp}
set_option maxHeartbeats 4000000
set_option maxRecDepth 20000
end
end Go.Proofs
end
