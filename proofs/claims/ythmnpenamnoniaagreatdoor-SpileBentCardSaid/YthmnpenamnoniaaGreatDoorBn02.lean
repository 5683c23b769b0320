/- SpileBent is true for every input: the given row, and its card. -/
import Derived.Test.YthmnpenamnoniaaGreatDoorBn01
set_option linter.all false
section
open Go Go.LL
namespace Go.Proofs
theorem uSpans:Tryz.prog.underlying 37=some (.slice 56):=by kernel_rfl
theorem tSpan:tiOf Tryz.prog 56=some (2,some (.agg #[vi 0,vi 0]),16):=by kernel_rfl
theorem WaM {n:Nat}(h:3<=n∧n<=4):((Array.range (n * 2)).map ((Value.agg #[vi 0,vi 0]).cells[· % (Value.agg #[vi 0,vi 0]).cells.size]!))=(encs (List.replicate n (⟨0,0⟩:Spn))).toArray:=by
 rcases(show n=3∨n=4 by omega) with rfl | rfl<;>kernel_rfl
def Wba (k:Slip)(i:Nat):Int:=(if k.bf=i+2 then k.by_ else 0)-(if k.by_≠0∧k.bf=i+1 then k.by_ else 0)
theorem Was {l:List Int}{f:Int->Int}{i:Nat}(h:i<l.length):(l.map f).getD i 0=f (l.getD i 0):=by
 rw[List.getD_eq_getElem?_getD,List.getElem?_map,List.getElem?_eq_getElem h,Zbc h];rfl
theorem bent_law {b:Bk}{l:List Int}{k:Slip}{i:Nat}(h:i<l.length-2):(benL ((Waa b l k).map (·+199))).getD i 0=-(benL l).getD i 0+Wba k i:=by
 have hl:(Waa b l k).length=l.length:=by simp[Waa]
 rw[Wav (by rw[List.length_map];omega),Wav h,Was (by omega),Was (by omega),Was (by omega),Waf (by omega),Waf (by omega),Waf (by omega),Wba]
 by_cases h0:k.by_=0
 ·simp[h0];omega
 ·simp only[h0,ne_eq,not_false_eq_true,true_and]
  split<;>split<;>split<;>split<;>split<;>omega
section
variable  {P:Prg}[Tz P][Loud P]{H:Hp}
set_option maxHeartbeats 16000000
set_option maxRecDepth 40000
theorem WaC (hPP:P=PP){bv lv:Value}{b:Bk}{l:List U16}(hb:BkAt H bv b)(hl:SlAt H lv l)(hg:Zbh H)(hgb:WaS H) :
  n1003.m P (MFin P r1003 fun v _=>v=vb true) (env0 [bv,lv]) H:=by
 have hs:=Loud.loud (P:=P)
 have hb0:=hb
 obtain⟨pv,cv,rfl,hp,hc⟩:=hb
 obtain⟨Ap,cp,rfl,hp'⟩:=id hp
 obtain⟨Ac,cc,rfl,hc'⟩:=id hc
 unfold n1003
 refine wkT ?_
 refine Zab (vs:=[.agg #[vi b.op,vi b.sl,.slice Ap b.pts.length cp,.slice Ac b.cks.length cc]]) rfl (Fit_ok hb0) ?_
 rintro v _ ⟨rfl,rfl⟩
 refine wkT ?_
 refine wiT (fun h0=>?_) (fun h0=>?_)
 ·refine wkT ?_
  refine Zab (vs:=[]) rfl (spiled_okP hPP hg) ?_
  rintro v H1 ⟨_,rfl⟩
  refine wkT ?_
  rfl
 have val:=Wa5 h0
 have hn:=val.n
 refine wkT ?_
 refine wiT (fun h3=>?_) (fun h3=>?_)
 ·refine wkT ?_
  refine Zab (vs:=[]) rfl (spiled_okP hPP hg) ?_
  rintro v H1 ⟨_,rfl⟩
  refine wkT ?_
  rfl
 have hsl:=val.sl
 have hop:=val.op
 have hck:=val.ckn
 have hK:=WaV val l
 have hM:=realM_mk val l
 have hM9:=realM_99 val l
 have hMl:=Wam b l b.pts.length
 have hKs:=ZjR val _ hK
 refine wkT ?_
 refine Zab (vs:=[.agg #[vi b.op,vi b.sl,.slice Ap b.pts.length cp,.slice Ac b.cks.length cc],lv]) rfl (Real_ok val hb0 hl) ?_
 rintro v H1 ⟨i1,A1,c1,rfl,s1⟩
 generalize WaO b l=K at *
 generalize Wap b l b.pts.length=M at *
 have y1:=Wa2 val hMl hM9 hK
 have y3:=gapsL_v val hMl hM9 hK
 have hgeq:gapLs b (Zgh M K)=Waa b M K:=(gaps_eq val hMl K).symm
 rw[hgeq]at y3
 have hgl:(Waa b M K).length=b.pts.length:=by simp[Waa,hMl]
 have hgr:=fun i=>real_rg val hM hK (i:=i)
 refine wkT ?_
 refine Zab (vs:=[.agg #[vi b.op,vi b.sl,.slice Ap b.pts.length cp,.slice Ac b.cks.length cc],.slice A1 b.pts.length c1,ZbG K]) rfl (Gaps_ok (hb0.inc i1) s1 (CellsAt.inc hg i1) (by omega) (by omega) (by omega)) ?_
 rintro v H2 ⟨i2,w,rfl,s2⟩
 rw[y3]at s2
 rw[y1]
 obtain⟨A2,c2,rfl,_⟩:=id s2
 rw[hgl]at s2 ⊢
 refine wkT ?_
 refine wiT (fun h4=>?_) (fun h4=>?_)
 ·exact absurd rfl h4
 refine wkT ?_
 refine WaF (n:=b.pts.length) (und uSpans) (tif tSpan) ⟨by omega,by omega⟩ (by omega) (by omega) (by rfl) (hs _) fun r3 hr3=>?_
 rw[WaM ⟨by omega,hn.2⟩]
 have i3:=Zai (o:=.cells (encs (List.replicate b.pts.length (⟨0,0⟩:Spn))).toArray 56) hr3
 have m3:SlAt (H2.ins r3 (.cells (encs (List.replicate b.pts.length (⟨0,0⟩:Spn))).toArray 56)) (.slice (some ⟨r3,0,none⟩) b.pts.length b.pts.length) (List.replicate b.pts.length (⟨0,0⟩:Spn)):=by
  have:=Za3 (H:=H2) (r:=r3) (E:=56) (l:=List.replicate b.pts.length (⟨0,0⟩:Spn)) (c:=b.pts.length)
  rw[List.length_replicate]at this
  exact this
 generalize H2.ins r3 (.cells (encs (List.replicate b.pts.length (⟨0,0⟩:Spn))).toArray 56)=H3 at *
 have t1:=s1.inc (i2.trans i3)
 have t2:=s2.inc i3
 refine wkT ?_
 refine ZaO (α:=Value×Option Nat) b.pts.length (fun j s H'=>Inc H3 H'∧Own H3 H' 3 s.1 (((Waa b M K).map (·+199)).take j) s.2) (fun j s=>[(4,vb false),(5,.slice A1 b.pts.length c1),(6,vi 0),(7,.slice A2 b.pts.length c2),(9,vi 0),(10,s.1),(11,vi j)]) (fun _ _=>[(6,[vi K.bf,vi K.by_]),(9,[vi 0,vi 0,vi 0,.slice (some ⟨r3,0,none⟩) b.pts.length b.pts.length,.slice none 0 0])]) (.slice none 0 0,none) ⟨.refl _,.nil _ _ _⟩ ⟨rfl,rfl,rfl,rfl,rfl,rfl,rfl,trivial⟩ ⟨rfl,rfl,trivial⟩ ?_
 rintro j ⟨v10,b10⟩ H4 hj ⟨i4,o4⟩
 simp only at o4
 refine wkT ?_
 refine wiT (fun h5=>?_) (fun h5=>?_)
 ·have hj':j<b.pts.length:=by omega
  have hjg:j<(Waa b M K).length:=by omega
  have hx:=hgr j
  rw[Zbc hjg]at hx
  have ht:((Waa b M K).map (·+199)).take (j+1)=((Waa b M K).map (·+199)).take j++[(Waa b M K)[j]+199]:=by
   rw[List.take_succ_eq_append_getElem (by rw[List.length_map];exact hjg),List.getElem_map]
  refine wkT ?_
  refine ZaE (t2.inc i4) rfl rfl rfl (i:=j) hjg fun a ha=>?_
  refine wkT ?_
  refine Zaf (hs _) rfl ha ?_
  refine wkT ?_
  refine Zab (vs:=[vi (Waa b M K)[j],vi (-199),vi 199]) rfl (Zm1 _ _ _) ?_
  rintro v _ ⟨rfl,rfl⟩
  rw[decide_eq_true (show (-199:Int)<=(Waa b M K)[j]∧(Waa b M K)[j]<=199 from hx)]
  refine wkT ?_
  refine ZaE (t2.inc i4) rfl rfl rfl (i:=j) hjg fun a ha=>?_
  refine wkT ?_
  refine Zaf (hs _) rfl ha ?_
  refine wkT ?_
  refine Zat (cs:=[vi ((Waa b M K)[j]+199)]) (hs _) rfl fun r5 hr5=>?_
  refine wkT ?_
  refine ZbU (l':=[(Waa b M K)[j]+199]) (und u34) (und u34) (tif t3) rfl (by decide) (i4.trans (Zai hr5)) (o4.ins hr5) Wa1 rfl (by simp only[List.length_take,List.length_map,List.length_singleton];omega) (by omega) rfl rfl (hs _) fun v7 H5 b7 k1 k2 k3=>?_
  rw[<-ht]at k2
  refine wkT ?_
  exact⟨(⟨j+1,by omega⟩,(v7,b7)),slt (by omega),⟨k1,k2⟩,⟨rfl,rfl,rfl,rfl,rfl,rfl,rfl,trivial⟩,⟨rfl,rfl,trivial⟩,rfl⟩
 have:j=b.pts.length:=by omega
 subst this
 rw[List.take_of_length_le (by rw[List.length_map];omega)]at o4
 have i04:=(i1.trans i2).trans (i3.trans i4)
 have hgb4:=CellsAt.inc hgb i04
 have s10:=o4.sl
 obtain⟨A10,c10,rfl⟩:=WaJ o4
 refine wkT ?_
 refine Zab (vs:=[batV (.slice (some ⟨r3,0,none⟩) b.pts.length b.pts.length),.slice A1 b.pts.length c1]) rfl (WaL hgb4 (m3.inc i4) (t1.inc i4) hMl ⟨by omega,by omega⟩ (fun z hz=>by have:=hM9 z hz;exact⟨by omega,by omega⟩)) ?_
 rintro v H5 ⟨i5,A5,c5,rfl,s5⟩
 refine wkT ?_
 refine Zab (vs:=[batV (.slice (some ⟨r3,0,none⟩) b.pts.length b.pts.length),.slice A10 ((Waa b M K).map (·+199)).length c10]) rfl (WaL (CellsAt.inc hgb4 i5) (m3.inc (i4.trans i5)) (s10.inc i5) (by rw[List.length_map];exact hgl) ⟨by omega,by omega⟩ (fun z hz=>by
  obtain⟨x,hx,rfl⟩:=List.mem_map.1 hz
  obtain⟨i,hi,rfl⟩:=List.mem_iff_getElem.1 hx
  have:=hgr i
  rw[Zbc hi]at this
  exact⟨by omega,by omega⟩)) ?_
 rintro v H6 ⟨i6,A6,c6,rfl,s6⟩
 have e2:((b.pts.length:Int)-2)=((b.pts.length-2:Nat):Int):=by omega
 have hb1:=Wau M
 have hb2:=Wau ((Waa b M K).map (·+199))
 rw[List.length_map]at hb2
 refine wkT ?_
 refine wiT (fun h6=>?_) (fun h6=>?_)
 ·exact absurd h6 (by omega)
 refine wkT ?_
 refine wiT (fun h8=>?_) (fun h8=>?_)
 ·exact absurd rfl h8
 refine wkT ?_
 refine ZaW (b.pts.length-2) (fun j H'=>H6=H') (fun j=>[(4,vb false),(6,vi 0),(12,.slice A5 (b.pts.length-2) c5),(14,.slice A6 (b.pts.length-2) c6),(16,vi j)]) (fun _=>[(6,[vi K.bf,vi K.by_])]) rfl ⟨rfl,rfl,rfl,rfl,rfl,trivial⟩ ⟨rfl,trivial⟩ ?_
 rintro j _ hj rfl
 have s5':=s5.inc i6
 refine wkT ?_
 refine wiT (fun h7=>?_) (fun h7=>?_)
 ·have hj':j<b.pts.length-2:=by omega
  have law:=bent_law (b:=b) (l:=M) (k:=K) (i:=j) (by omega)
  rw[Zbc (by omega),Zbc (by omega),Wba]at law
  have rg1:-400<=(benL M)[j]'(by omega)∧(benL M)[j]'(by omega)<=400:=by
   rw[<-Zbc (by omega) 0,Wav (by omega),Zbc (by omega),Zbc (by omega),Zbc (by omega)]
   have a0:=hM9 _ (List.getElem_mem (show j<M.length by omega))
   have a1:=hM9 _ (List.getElem_mem (show j+1<M.length by omega))
   have a2:=hM9 _ (List.getElem_mem (show j+2<M.length by omega))
   omega
  generalize hx:(benL M)[j]'(by omega)=x at *
  generalize hy:(benL ((Waa b M K).map (·+199)))[j]'(by omega)=y at *
  refine wkT ?_
  refine ZaE s5' rfl rfl rfl (i:=j) (by omega) fun a ha=>?_
  rw[hx]at ha
  refine wkT ?_
  refine Zaf (hs _) rfl ha ?_
  refine wkT ?_
  refine om_neg rfl ⟨by omega,by omega⟩ ?_
  refine wbT ?_
  refine ZbX (ι:=Unit) (fun _ H'=>H6=H') (fun _=>[(4,vb false),(6,vi 0),(12,.slice A5 (b.pts.length-2) c5),(14,.slice A6 (b.pts.length-2) c6),(16,vi j),(17,vi (-x+if K.bf=j+2 then K.by_ else 0))]) (fun _=>[(6,[vi K.bf,vi K.by_])]) ?_ ?_
  ·refine wkT ?_
   refine wiT (fun h8=>?_) (fun h8=>?_)
   ·refine wkT ?_
    exact⟨(),rfl,⟨rfl,rfl,rfl,rfl,rfl,by rw[if_pos h8];rfl,trivial⟩,⟨rfl,trivial⟩,rfl⟩
   ·refine wkT ?_
    exact⟨(),rfl,⟨rfl,rfl,rfl,rfl,rfl,by rw[if_neg h8,Int.add_zero];rfl,trivial⟩,⟨rfl,trivial⟩,rfl⟩
  rintro _ _ rfl
  generalize hz:(-x+if K.bf=j+2 then K.by_ else 0)=z at *
  have rgz:-500<=z∧z<=500:=by subst hz;split<;>omega
  have fin:y=z-if K.by_≠0∧K.bf=j+1 then K.by_ else 0:=by omega
  refine wbT ?_
  refine ZbX (ι:=Unit) (fun _ H'=>H6=H') (fun _=>[(4,vb false),(6,vi 0),(12,.slice A5 (b.pts.length-2) c5),(14,.slice A6 (b.pts.length-2) c6),(16,vi j),(17,vi (y))]) (fun _=>[(6,[vi K.bf,vi K.by_])]) ?_ ?_
  ·refine wkT ?_
   refine wiT (fun h9=>?_) (fun h9=>?_)
   ·refine wkT ?_
    refine wiT (fun h10=>?_) (fun h10=>?_)
    ·have e9:y=z-K.by_:=by rw[fin,if_pos ⟨h9,h10⟩]
     refine wkT ?_
     exact⟨(),rfl,⟨rfl,rfl,rfl,rfl,rfl,by rw[e9];rfl,trivial⟩,⟨rfl,trivial⟩,rfl⟩
    ·have e9:y=z:=by rw[fin,if_neg (fun e=>h10 e.2),Int.sub_zero]
     refine wkT ?_
     exact⟨(),rfl,⟨rfl,rfl,rfl,rfl,rfl,by rw[e9];rfl,trivial⟩,⟨rfl,trivial⟩,rfl⟩
   ·refine wkT ?_
    have e9:y=z:=by rw[fin,if_neg (fun e=>e.1 h9),Int.sub_zero]
    exact⟨(),rfl,⟨rfl,rfl,rfl,rfl,rfl,by rw[e9];rfl,trivial⟩,⟨rfl,trivial⟩,rfl⟩
  rintro _ _ rfl
  refine wkT ?_
  refine ZaE s6 rfl rfl rfl (i:=j) (by omega) fun a ha=>?_
  rw[hy]at ha
  refine wkT ?_
  refine Zaf (hs _) rfl ha ?_
  refine wkT ?_
  refine wiT (fun h11=>?_) (fun h11=>?_)
  ·exact absurd rfl h11
  refine wkT ?_
  exact⟨⟨j+1,by omega⟩,slt (by omega),rfl,⟨rfl,rfl,rfl,rfl,rfl,trivial⟩,⟨rfl,trivial⟩,rfl⟩
 ·refine wkT ?_
  refine Zab (vs:=[]) rfl (spiled_okP hPP (CellsAt.inc hg ((i04.trans i5).trans i6))) ?_
  rintro v H7 ⟨_,rfl⟩
  refine wkT ?_
  rfl
end
end Go.Proofs
end
section
open Go Go.LL Go.Conc Go.ConcM
namespace Go.Proofs.YthmnpenamnoniaaGreatDoor
open Go.ChangeShapes Go.WideShapes Go.ChangeAt Go.RowKit
set_option maxRecDepth 100000 in
theorem Wak (os:Os)(started:os.Started)(H:Type)(enc:TypeId×Value->H)(F:Stop.Interp) :
  ReturnsInLeavingWide { calm:=true } Tryz.checked os 3 .any (fun w args=>(Rows.spileBentSpec.pre enc Tryz.prog Tryz.f3 [] false w args∧laidMetH Tryz.prog laidB w)∧sizedMet enc Tryz.prog Tryz.f3 (OpenSpec.ofChange Rows.spileBentSpec) false w args)
   ((OpenSpec.ofChange Rows.spileBentSpec).postWith enc Tryz.prog Tryz.f3 F (outsideKept [.timePasses]) false true false):=by
 refine law_lifted laidB (Gl:=fun H=>Zbh H∧WaS H) (fun W h=>⟨Wa3 (List.mem_cons_of_mem _ (List.mem_singleton.2 rfl)) h,WaQ List.mem_cons_self h⟩) doorMetB os started F rfl Tryz.func3 Tryz.results3 (by kernel_rfl) (by kernel_rfl) ?_ ?_ ?_ #[.agg #[.int .i64 0,.int .i64 0,.slice none 0 0,.slice none 0 0],.slice none 0 0] (by kernel_rfl) (by kernel_rfl) (by kernel_rfl)
 ·intro ds hl
  rw[Tryz.params3]at hl
  match ds,hl with
  | [d0,d1],_=>rfl
 ·have h:(Tryz.f3.params.toList.all fun t=>Tryz.prog.readableRec t && decide (t<Tryz.prog.types.size))=true:=by kernel_rfl
  intro t ht
  simpa using List.all_eq_true.1 h t ht
 ·intro W base args ds p hval hA hg
  rw[Tryz.params3]at hA hval
  obtain⟨v0,w0,d0,e0,p0,q0,ha,rfl,rfl,h0,r0⟩:=trodAll_cons hA
  obtain⟨v1,w1,d1,e1,p1,q1,rfl,rfl,rfl,h1,r1⟩:=trodAll_cons r0
  obtain⟨rfl,rfl,rfl⟩:=trodAll_nil r1
  obtain rfl:args=#[v0,v1]:=by cases args;simp_all
  obtain⟨b0,k0⟩:=bk_open (hval 0 25 v0 rfl rfl) h0
  obtain⟨l1,k1⟩:=WaT (hval 1 26 v1 rfl rfl) h1
  exact WaW (args:=[v0,v1]) (isn c1003) Tryz.func3 Tryz.results3 rfl (WaC rfl k0 k1 hg.1 hg.2)
theorem spileBent_holds:Rows.SpileBentSaid:=
 OpenClaim.holds_of_wide_leaving_time 3 Tryz.f3 rfl rfl rfl rfl rfl rfl rfl ⟨rfl,rfl,rfl,rfl,rfl⟩ rfl rfl rfl rfl rfl WaB Tryz.func3 WaA Waz Way
  (fun os started H enc _ F=>Wak os started H enc F)
theorem spileBent_card:Rows.SpileBentCardSaid:=
 Zmy .later [.funcs,.funcs] true (true,"9cf33abbe2d4d8327d205b7d249e169818294d6939a1d7b1339e3e1d23bfd0bb") false
  spileBent_holds (by kernel_rfl) spileBent_row_tie rfl ⟨rfl,rfl⟩ (by kernel_rfl) rfl
  (fun f fn hf hfn=>by
   obtain rfl:f=3:=Option.some.inj (WaB.symm.trans hf) |>.symm
   obtain rfl:fn=Tryz.f3:=(Option.some.inj (Tryz.func3.symm.trans hfn)).symm
   exact⟨by kernel_rfl,fun j t ht=>by
    have hall:(Tryz.f3.params.all fun u=>!Tryz.prog.wantsStandIn u)=true:=by kernel_rfl
    have hm:=Array.mem_of_getElem? ht
    exact(show Tryz.prog.wantsStandIn t=false by simpa using (Array.all_eq_true_iff_forall_mem.1 hall) t hm)⟩)
  (by kernel_rfl)
end Go.Proofs.YthmnpenamnoniaaGreatDoor
end
