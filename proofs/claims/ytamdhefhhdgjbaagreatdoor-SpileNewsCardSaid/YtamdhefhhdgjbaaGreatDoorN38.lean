import Derived.Test.YtamdhefhhdgjbaaGreatDoorN37
set_option linter.all false
section
open Go Go.LL
namespace Go.Proofs
def oddF (b:Bk)(j:Nat):List (List Int):=((List.range j).filter fun m=>!(Zbg (Zdp b m))).map (Zcc b)
theorem Zls (b:Bk)(j:Nat):oddF b (j+1)=oddF b j++if Zbg (Zdp b j) then [] else [Zcc b j]:=by
 rw[oddF,List.range_succ,List.filter_append,List.map_append,oddF]
 congr 1
 cases h:Zbg (Zdp b j)<;>simp[h]
theorem ZnW (b:Bk)(j:Nat):(oddF b j).length<=j:=by
 rw[oddF,List.length_map]
 have:=List.length_filter_le (fun m=>!(Zbg (Zdp b m))) (List.range j)
 rwa [List.length_range]at this
theorem Zn6 (n:Nat):ZfK (2 ^ n-1) n=List.range n:=by
 rw[ZfK,List.filter_eq_self]
 intro i hi
 rw[Nat.testBit_two_pow_sub_one]
 simpa using hi
theorem ZmJ (b:Bk):Zdp b (2 ^ b.cks.length-1)=b:=by
 have:Zcd b (2 ^ b.cks.length-1) b.cks.length=b.cks:=by
  rw[Zcd,Zn6]
  refine List.ext_getElem (by simp) fun i h1 h2=>?_
  simp only[List.getElem_map,List.getElem_range,ckAt]
  exact ZaG h2 _
 rw[Zdp,this]
theorem ZnU {b:Bk}(h:Zbg b=false):1<=(oddF b (2 ^ b.cks.length)).length:=by
 have h1:2 ^ b.cks.length=(2 ^ b.cks.length-1)+1:=by have:=Nat.two_pow_pos b.cks.length;omega
 rw[h1,Zls,ZmJ,h]
 simp
def Zea (b:Bk):List Int:=Zbe fewF ((oddF b (2 ^ b.cks.length)).getD 0 []) ((oddF b (2 ^ b.cks.length)).drop 1)
theorem shl_v {n:Nat}(h:n<=3):bitV .shl .i64 1 (n:Int)=vi ((2 ^ n:Nat):Int):=by
 match n,h with
 | 0,_=>rfl
 | 1,_=>rfl
 | 2,_=>rfl
 | 3,_=>rfl
theorem u157:Tryz.prog.underlying 157=some (.slice 34):=by kernel_rfl
theorem t34:tiOf Tryz.prog 34=some (1,some (.slice none 0 0),24):=by kernel_rfl
theorem ZmK (b:Bk)(m:Nat):(Zcc b m).length<=b.cks.length:=by rw[Zcc,Zbu,List.length_map];exact Zf6 _ _
theorem ZnV {b:Bk}{j:Nat}{l:List Int}(h:l∈oddF b j):l.length<=b.cks.length:=by
 obtain⟨m,_,rfl⟩:=List.mem_map.1 h
 exact ZmK b m
section
variable  {P:Prg}[Tz P][Loud P]{H:Hp}
set_option maxHeartbeats 2000000
theorem ZlU {bv:Value}{b:Bk}(hb:BkAt H bv b)(hg:Zba H)(hl:b.pts.length<=1000000)(hl2:b.cks.length<=1000000) :
  LL.Zai P 37 #[bv] H fun v H'=>Inc H H'∧∃ w,v=.tuple #[w,vi (snag b)]∧SlAt H' w (if snag b=0∧Zbg b=false then Zea b else []):=by
 have hs:=Loud.loud (P:=P)
 have hb0:=hb
 obtain⟨pv,cv,rfl,hp,hc⟩:=hb
 refine IsN.m (isn c37) (args:=[.agg #[vi b.op,vi b.sl,pv,cv]]) rfl ?_
 unfold n37
 obtain⟨Ap,cp,rfl,hp'⟩:=id hp
 obtain⟨Ac,cc,rfl,hc'⟩:=id hc
 refine wkT ?_
 refine Zab (vs:=[.agg #[vi b.op,vi b.sl,.slice Ap b.pts.length cp,.slice Ac b.cks.length cc]]) rfl (ZaU hb0 hg hl hl2 (hs _)) ?_
 rintro v _ ⟨rfl,rfl⟩
 refine wkT ?_
 refine wiT (fun h1=>?_) (fun h1=>?_)
 ·refine wkT ?_
  exact⟨.refl _,_,rfl,by rw[if_neg (by rintro⟨h,_⟩;exact h1 h)];exact .nil _⟩
 ·have val:=ZaH h1
  have hck:=val.ckn
  refine wkT ?_
  refine Zab (vs:=[.agg #[vi b.op,vi b.sl,.slice Ap b.pts.length cp,.slice Ac b.cks.length cc]]) rfl (Zkk hb0 val.good) ?_
  rintro v H1 ⟨hi1,rfl⟩
  refine wkT ?_
  refine wiT (fun h2=>?_) (fun h2=>?_)
  ·refine wkT ?_
   exact⟨hi1,_,by rw[h1];rfl,by rw[if_neg (by simp[Zbg,h2])];exact .nil _⟩
  ·have h2:Zbg b=false:=by rw[Zbg,h2];rfl
   refine wkT ?_
   refine Zcq rfl rfl (.inr rfl) (by omega) (shl_v hck) ?_
   refine wkT ?_
   have hpw:2 ^ b.cks.length<=2 ^ 3:=Nat.pow_le_pow_right (by decide) hck
   refine Zax (α:=Hp×Value×List Value×Option Nat) (2 ^ b.cks.length) (fun j s H'=>Inc H s.1∧Inc s.1 H'∧Own s.1 H' 34 s.2.1 s.2.2.1 s.2.2.2∧LLAt s.1 s.2.2.1 (oddF b j))
    (fun j s=>[(1,vi 0),(2,.slice none 0 0),(3,vi 0),(5,vi 0),(6,s.2.1),(22,vi (2 ^ b.cks.length:Nat)),(23,vi j)])
    (fun j s=>[(1,[vi b.op,vi b.sl,.slice Ap b.pts.length cp,.slice Ac b.cks.length cc]),(5,[vi b.op,vi b.sl,.slice Ap b.pts.length cp,.slice Ac b.cks.length cc])])
    (H1,.slice none 0 0,[],none) ⟨hi1,.refl H1,.nil _ _ _,.nil _⟩ ⟨rfl,rfl,rfl,rfl,rfl,rfl,rfl,trivial⟩ ⟨rfl,rfl,trivial⟩ ?_
   rintro j ⟨G,v6,vs,b6⟩ H2 hj ⟨hG,hG2,o6,hls⟩
   simp only at hG hG2 o6 hls
   have hln:=hls.len
   have hol:=ZnW b j
   refine wkT ?_
   refine wiT (fun h3=>?_) (fun h3=>?_)
   ·have hj':j<2 ^ b.cks.length:=by omega
    have hos:=Zls b j
    refine wkT ?_
    refine Zab (vs:=[.agg #[vi b.op,vi b.sl,.slice Ap b.pts.length cp,.slice Ac b.cks.length cc],vi j]) rfl (alone_ok (m:=j) (hb0.inc (hG.trans hG2)) (by omega) (by omega)) ?_
    rintro v H3 ⟨hi3,w,lv,bb,rfl,hw,ow⟩
    obtain⟨_,_,rfl,⟨_,_,rfl,_⟩,⟨_,_,rfl,_⟩⟩:=id hw
    refine wkT ?_
    refine Zab (vs:=[_]) rfl (Zkk hw (val.alone j).good) ?_
    rintro v H4 ⟨hi4,rfl⟩
    refine wkT ?_
    refine wiT (fun h4=>?_) (fun h4=>?_)
    ·obtain⟨G',g1,g2,g3,g4⟩:=Ziu hG2 o6 (hi3.trans hi4) ⟨(ow.inc hi4).own,ow.fresh⟩
     rw[h4,if_neg (by decide)]at hos
     obtain⟨A9,c9,rfl,_⟩:=id g4
     refine wkT ?_
     refine Zao (cs:=[.slice A9 (Zcc b j).length c9]) (hs _) rfl fun r5 hr5=>?_
     refine wkT ?_
     refine ZaR (l':=[Value.slice A9 (Zcc b j).length c9]) (und u157) (und u157) (tif t34) rfl (by decide) (g2.trans (Zah hr5)) (g3.ins hr5) (ZaT (l:=[Value.slice A9 (Zcc b j).length c9])) rfl (by simp;omega) (by omega) rfl rfl (hs _) fun v6' H5 b6' k1 k2 k3=>?_
     refine wkT ?_
     exact⟨(⟨j+1,by omega⟩,(G',v6',vs++[.slice A9 (Zcc b j).length c9],b6')),slt (by omega),⟨hG.trans g1,k1,k2,by rw[hos];exact(hls.inc g1).snoc g4⟩,⟨rfl,rfl,rfl,rfl,rfl,rfl,rfl,trivial⟩,⟨rfl,rfl,trivial⟩,rfl⟩
    ·rw[h4,if_pos rfl,List.append_nil]at hos
     refine wkT ?_
     exact⟨(⟨j+1,by omega⟩,(G,v6,vs,b6)),slt (by omega),⟨hG,(hG2.trans hi3).trans hi4,(o6.inc hi3).inc hi4,by rw[hos];exact hls⟩,⟨rfl,rfl,rfl,rfl,rfl,rfl,rfl,trivial⟩,⟨rfl,rfl,trivial⟩,rfl⟩
   ·have:j=2 ^ b.cks.length:=by omega
    subst this
    have hpos:=ZnU (b:=b) h2
    have hle2:=ZnW b (2 ^ b.cks.length)
    obtain⟨A6,c6,f1,f2⟩:=Ze1 o6.own (by omega)
    have s6:=o6.sl
    subst f1
    have hd:=hls.at_ 0 (by omega) (by omega)
    refine wkT ?_
    refine Zar s6 rfl rfl rfl (i:=0) (by omega) fun a ha=>?_
    refine wkT ?_
    refine Zaf (hs _) rfl ha ?_
    refine wkT ?_
    refine ZbE (lo:=1) (und u157) (tif t34) rfl rfl (by omega) ?_
    refine wkT ?_
    refine Zab (vs:=[vf 122,vs[0],_]) rfl (bestL_ok (hd.inc hG2) f2 ((hls.inc hG2).drop 1) (by simp;omega) (by have:=ZnV (b:=b) (j:=2 ^ b.cks.length) (List.getElem_mem (show 0<_ by omega));omega) (fun l hl=>by have:=ZnV (List.mem_of_mem_drop hl);omega) (hs _)) ?_
    rintro v _ ⟨rfl,hv⟩
    refine wkT ?_
    refine⟨hG.trans hG2,v,by rw[h1];rfl,?_⟩
    rw[if_pos ⟨h1,h2⟩,Zea,ZaG (by omega)]
    exact hv
end
theorem qNLuF0 {G:Prop} (h:G:=by
  refine wkT ?_
  exact⟨⟨j+1,by omega⟩,slt (by omega),hi2.trans hi3,⟨rfl,by rw[has];rfl,by rw[has];rfl,rfl,rfl,rfl,rfl,trivial⟩,⟨rfl,rfl,trivial⟩,rfl⟩):G:=h
theorem ZiU {α:Type}[DecidableEq α]:∀ (m:List (α×Int)) (a:α) (w:Int) (c:α),getM (putM m a w) c=if c=a then w else getM m c
 | [],a,w,c=>by simp[putM,getM]
 | (k,v) :: r,a,w,c=>by
  rw[putM]
  by_cases h:a=k
  ·subst h
   rw[if_pos rfl,getM,getM]
   by_cases hc:c=a
   ·rw[if_pos hc,if_pos hc]
   ·rw[if_neg hc,if_neg hc,if_neg hc]
  ·rw[if_neg h,getM,getM,ZiU r a w c]
   by_cases hc:c=k
   ·subst hc;rw[if_pos rfl,if_pos rfl,if_neg (Ne.symm h)]
   ·rw[if_neg hc,if_neg hc]
def Zi0 (s:List (Int×Int)×Int)(g:Int):List (Int×Int)×Int:=(putM s.1 g (getM s.1 g+1),max s.2 (getM (putM s.1 g (getM s.1 g+1)) g))
def askW (L:List Int):List (Int×Int)×Int:=L.foldl Zi0 ([],0)
theorem Zg1 (L:List Int)(g:Int):askW (L++[g])=Zi0 (askW L) g:=by rw[askW,List.foldl_append];rfl
theorem ZoR (L:List Int):(∀ c,0<=getM (askW L).1 c∧getM (askW L).1 c<=L.length)∧0<=(askW L).2∧(askW L).2<=L.length:=by
 have:∀ (n:Nat) (L:List Int),L.length=n->(∀ c,0<=getM (askW L).1 c∧getM (askW L).1 c<=L.length)∧0<=(askW L).2∧(askW L).2<=L.length:=by
  intro n
  induction n with
  | zero=>
   intro L hL
   have:L=[]:=List.eq_nil_of_length_eq_zero hL
   subst this
   exact⟨fun c=>⟨Int.le_refl _,Int.le_refl _⟩,Int.le_refl _,Int.le_refl _⟩
  | succ n ih=>
   intro L hL
   obtain⟨L',g,rfl⟩:∃ L' g,L=L'++[g]:=⟨L.dropLast,L.getLast (by rintro rfl;simp at hL),(List.dropLast_concat_getLast _).symm⟩
   rw[List.length_append,List.length_singleton]at hL
   obtain⟨h1,h2,h3⟩:=ih L' (by omega)
   rw[Zg1,Zi0,List.length_append,List.length_singleton]
   simp only[ZiU]
   have hg:=h1 g
   refine⟨fun c=>?_,?_,?_⟩
   ·split
    ·omega
    ·have:=h1 c;omega
   ·simp only[if_true];omega
   ·simp only[if_true];omega
 exact this _ L rfl
def ZaL (b:Bk)(i:Nat):List Int:=(Zae b).map fun x=>(Zav b x).get i
def askL (b:Bk)(n:Nat):Int×Int:=(List.range n).foldl (fun s i=>if (askW (ZaL b i)).2<s.2 then ((i:Int),(askW (ZaL b i)).2) else s) (-1,((Zae b).length:Int))
theorem Zj7 (b:Bk)(n:Nat):askL b (n+1)=if (askW (ZaL b n)).2<(askL b n).2 then ((n:Int),(askW (ZaL b n)).2) else askL b n:=by
 rw[askL,List.range_succ,List.foldl_append];rfl
def askF (b:Bk):Int×Int:=askL b b.pts.length
theorem u162:Tryz.prog.underlying 162=some (.map 3 3):=by kernel_rfl
section
variable  {P:Prg}[Tz P][Loud P]{H:Hp}
set_option maxHeartbeats 2000000
theorem Ask_ok {bv:Value}{b:Bk}(hb:BkAt H bv b)(hg:Zba H)(hl:b.pts.length<=1000000)(hl2:b.cks.length<=1000000) :
  LL.Zai P 39 #[bv] H fun v H'=>Inc H H'∧v=.tuple #[vi (if Zag b true=0 then (askF b).1 else 0),vi (if Zag b true=0 then (askF b).2 else 0),vi (Zag b true)]:=by
 have hs:=Loud.loud (P:=P)
 have hb0:=hb
 obtain⟨pv,cv,rfl,hp,hc⟩:=hb
 refine IsN.m (isn c39) (args:=[.agg #[vi b.op,vi b.sl,pv,cv]]) rfl ?_
 unfold n39
 refine wkT ?_
 refine Zab (vs:=[.agg #[vi b.op,vi b.sl,pv,cv],vf 90]) rfl (Zeg (there:=true) hb0 hg hl hl2 ZeZ) ?_
 rintro v H1 ⟨hi1,⟨hz,rfl⟩ | ⟨hz,pv',cv',w,bb,e,rfl,ow⟩⟩
 ·refine wkT ?_
  refine wiT (fun h1=>?_) (fun h1=>?_)
  ·refine wkT ?_
   exact⟨hi1,by rw[if_neg hz,if_neg hz];rfl⟩
  ·exact absurd h1 hz
 simp only[Value.agg.injEq,Array.mk.injEq,List.cons.injEq,and_true]at e
 obtain⟨_,_,rfl,rfl⟩:=e
 have val:=ZaH (Ziw hz).1
 have hlen:=Za8 val
 obtain⟨Ap,cp,rfl,hp'⟩:=id hp
 obtain⟨Ac,cc,rfl,hc'⟩:=id hc
 have hw:=ow.sl
 obtain⟨Aw,cw,rfl,_⟩:=id hw
 refine wkT ?_
 refine ZaP b.pts.length (fun j H'=>Inc H1 H')
  (fun j=>[(1,vi 0),(2,vi (askL b j).1),(3,vi (askL b j).2),(4,vi 0),(5,vi 0),(25,vi b.pts.length),(26,vi j)])
  (fun j=>[(1,[vi b.op,vi b.sl,.slice Ap b.pts.length cp,.slice Ac b.cks.length cc]),(5,[vi b.op,vi b.sl,.slice Ap b.pts.length cp,.slice Ac b.cks.length cc,.slice Aw (Zae b).length cw])])
  (.refl H1) ⟨rfl,rfl,rfl,rfl,rfl,rfl,rfl,trivial⟩ ⟨rfl,rfl,trivial⟩ ?_
 intro j H2 hj hi2
 refine wkT ?_
 refine wiT (fun h1=>?_) (fun h1=>?_)
 ·have hj':j<b.pts.length:=by omega
  have hj4:j<4:=by have:=val.n;omega
  refine wkT ?_
  refine ZhH (α:=Int) (kv:=vi) (hs _) fun r hr=>?_
  refine wkT ?_
  refine Zax (α:=Unit) (Zae b).length (fun k _ H'=>Inc H2 H'∧H' r=some (mapO vi (askW ((ZaL b j).take k)).1,true))
   (fun k _=>[(1,vi 0),(2,vi (askL b j).1),(3,vi (askL b j).2),(4,vi 0),(5,vi 0),(6,vi j),(7,.map (some r)),(8,vi (askW ((ZaL b j).take k)).2),(25,vi b.pts.length),(26,vi j),(31,.slice Aw (Zae b).length cw),(32,vi (Zae b).length),(33,vi k)])
   (fun _ _=>[(1,[vi b.op,vi b.sl,.slice Ap b.pts.length cp,.slice Ac b.cks.length cc]),(5,[vi b.op,vi b.sl,.slice Ap b.pts.length cp,.slice Ac b.cks.length cc,.slice Aw (Zae b).length cw])])
   () ⟨Zah hr,Hp.ins_same _ _ _⟩ ⟨rfl,rfl,rfl,rfl,rfl,rfl,rfl,rfl,rfl,rfl,rfl,rfl,rfl,trivial⟩ ⟨rfl,rfl,trivial⟩ ?_
  rintro k _ H3 hk ⟨hi3,hr3⟩
  refine wkT ?_
  refine wiT (fun h2=>?_) (fun h2=>?_)
  ·have hk':k<(Zae b).length:=by omega
   have hx:=Zdi val _ (List.getElem_mem hk')
   have hkl:k<(ZaL b j).length:=by rw[ZaL,List.length_map];exact hk'
   have hgk:(ZaL b j)[k]=(Zav b (Zae b)[k]).get j:=by simp[ZaL]
   have htk:(ZaL b j).take (k+1)=(ZaL b j).take k++[(Zav b (Zae b)[k]).get j]:=by rw[List.take_succ_eq_append_getElem hkl,hgk]
   have hst:=Zg1 ((ZaL b j).take k) ((Zav b (Zae b)[k]).get j)
   rw[<-htk]at hst
   obtain⟨q1,q2,q3⟩:=ZoR ((ZaL b j).take k)
   have q4:((ZaL b j).take k).length<=1782:=by
    rw[List.length_take]
    have:(ZaL b j).length=(Zae b).length:=by rw[ZaL,List.length_map]
    omega
   refine wkT ?_
   refine Zar ((hw.inc hi2).inc hi3) rfl rfl rfl (i:=k) hk' fun a ha=>?_
   refine wkT ?_
   refine Zam (hs _) rfl ha rfl ?_
   refine wkT ?_
   refine Zab (vs:=[.agg #[vi b.op,vi b.sl,.slice Ap b.pts.length cp,.slice Ac b.cks.length cc],ZaS (Zae b)[k]]) rfl (ZdG (((hb0.inc hi1).inc hi2).inc hi3) val.good.bk (ZdM hx) (hs _)) ?_
   rintro v _ ⟨rfl,rfl⟩
   generalize (Zae b)[k]=x at *
   refine wkT ?_
   refine ZdA (und u119) (tif t3) (agf a3) rfl rfl (i:=j) hj4 (v:=vi ((Zav b x).get j)) (by have:=Zc0 (Zav b x) hj4;rw[Nat.zero_add]at this;simpa[N4.cells]using this) ?_
   generalize (Zav b x).get j=gv at *
   have qg:=q1 gv
   generalize hmm:(askW ((ZaL b j).take k))=st at *
   obtain⟨m,wo⟩:=st
   simp only at qg q2 q3 hr3
   refine wkT ?_
   refine Zez (α:=Int) (m:=m) (kv:=vi) (und u162) (Zoj (und ui3)) (tif t3) rfl rfl hr3 (hs _) ?_
   refine wkT ?_
   refine ZnQ (α:=Int) (kv:=vi) (und u162) (Zoj (und ui3)) rfl rfl rfl hr3 (hs _) ?_
   refine wkT ?_
   refine Zez (α:=Int) (kv:=vi) (und u162) (Zoj (und ui3)) (tif t3) rfl rfl (Hp.ins_same _ _ _) (hs _) ?_
   refine wkT ?_
   refine ZjA rfl rfl ?_
   refine wkT ?_
   refine⟨(⟨k+1,by omega⟩,()),slt (by omega),⟨Za5 hi3 hr,by rw[hst];exact Hp.ins_same _ _ _⟩,⟨rfl,rfl,rfl,rfl,rfl,rfl,rfl,?_,rfl,rfl,rfl,rfl,rfl,trivial⟩,⟨rfl,rfl,trivial⟩,rfl⟩
   rw[hst];rfl
  ·have:k=(Zae b).length:=by omega
   subst this
   have htl:(ZaL b j).take (Zae b).length=ZaL b j:=List.take_of_length_le (by rw[ZaL,List.length_map];exact Nat.le_refl _)
   rw[htl]
   have has:=Zj7 b j
   refine wkT ?_
   refine wiT (fun h3=>?_) (fun h3=>?_)
   ·rw[if_pos h3]at has
    exact qNLuF0
   ·rw[if_neg h3]at has
    exact qNLuF0
 ·have:j=b.pts.length:=by omega
  subst this
  refine wkT ?_
  exact⟨hi1.trans hi2,by rw[if_pos hz,if_pos hz,hz];rfl⟩
end
theorem Zf5 (a b:N4):n4Eq a b=true↔a=b:=by
 obtain⟨a1,a2,a3,a4⟩:=a
 obtain⟨b1,b2,b3,b4⟩:=b
 simp[n4Eq]
instance:DecidableEq N4:=fun a b=>if h:n4Eq a b=true then .isTrue ((Zf5 a b).1 h) else .isFalse fun e=>h ((Zf5 a b).2 e)
theorem Zmv {len:Nat}{E:TypeId}{k:N4}:∀ (m:List (N4×Int)) (b i:Nat),Instr.findNow (.array len E) (numV k) (esFrom numV b m) i=(if m=[] then some none else none)
 | [],b,i=>rfl
 | (k',v) :: r,b,i=>rfl
section
variable  {P:Prg}[Tz P]
theorem ZhX {k:N4}{Q:Option (Nat×Value)->Bool->Hp->Prop}{g:Bool}{H:Hp}:∀ (m:List (N4×Int)) (b i:Nat),Q (Zct m k i) g H->wpL P.toPQ (Instr.findAsking 119 (numV k) (esFrom numV b m) i) Q g H
 | [],b,i,h=>by simpa[esFrom,Instr.findAsking,Zct,Zac]using h
 | (k',v) :: r,b,i,h=>by
  simp only[esFrom,Instr.findAsking,Zaa]
  show wpL P.toPQ (Op.equalIn (9998+1+1) 119 (numV k) (numV k')) _ g H
  refine eq119 _ ?_
  rw[Zct]at h
  by_cases e:k=k'
  ·rw[if_pos e]at h
   rw[(Zf5 k k').2 e]
   simpa[Zac]using h
  ·rw[if_neg e]at h
   have:n4Eq k k'=false:=by
    cases hh:n4Eq k k' with
    | false=>rfl
    | true=>exact absurd ((Zf5 k k').1 hh) e
   rw[this]
   simp only[Bool.false_eq_true,if_false]
   exact ZhX r (b+1) (i+1) h
theorem keyN4:KeyT (α:=N4) P.toPQ 119 numV where
 chk:=fun b a Q g H h=>by
  have p1:∀ (x y z u:Int) (Q:Value->Bool->Hp->Prop) g H,wpL P.toPQ (part 3 #[vi x,vi y,vi z,vi u] 0) Q g H↔Q (vi x) g H:=fun x y z u Q g H=>Zex rfl Q
  have p2:∀ (x y z u:Int) (Q:Value->Bool->Hp->Prop) g H,wpL P.toPQ (part 3 #[vi x,vi y,vi z,vi u] 1) Q g H↔Q (vi y) g H:=fun x y z u Q g H=>Zex rfl Q
  have p3:∀ (x y z u:Int) (Q:Value->Bool->Hp->Prop) g H,wpL P.toPQ (part 3 #[vi x,vi y,vi z,vi u] 2) Q g H↔Q (vi z) g H:=fun x y z u Q g H=>Zex rfl Q
  have p4:∀ (x y z u:Int) (Q:Value->Bool->Hp->Prop) g H,wpL P.toPQ (part 3 #[vi x,vi y,vi z,vi u] 3) Q g H↔Q (vi u) g H:=fun x y z u Q g H=>Zex rfl Q
  have pc:∀ (v:Int) (Q:Unit->Bool->Hp->Prop) g H,wpL P.toPQ (Instr.checkKey b 9999 3 (vi v)) Q g H↔Q () g H:=fun v Q g H=>by
   rw[show (9999:Nat)=9998+1 from rfl,Instr.checkKey]
   simp only[Zaa,Zad (und (P:=P) ui3),Zac]
  obtain⟨inf,i1,i2,i3,i4⟩:=(tif (P:=P) t3).ex
  have pS:∀ (Q:Nat->Bool->Hp->Prop) g H,wpL P.toPQ (sizeOf 3) Q g H↔Q 1 g H:=fun Q g H=>by rw[Zas i1,i2]
  rw[show (10000:Nat)=9999+1 from rfl,Instr.checkKey]
  simp only[numV,Zaa,Zad (und (P:=P) u119)]
  have hr:List.range' 0 4=[0,1,2,3]:=rfl
  simp only[Std.Legacy.Range.forIn_eq_forIn_range',Std.Legacy.Range.size,Nat.sub_zero,Nat.add_sub_cancel,Nat.div_one,hr,List.forIn_cons,List.forIn_nil,Zaa,Zas i1,i2]
  simpa[pS,p1,p2,p3,p4,pc,Zaa,Zac]using h
 fnd:=fun m a Q g H h=>by
  simp only[Instr.findKey,Zaa,Zad (und (P:=P) u119),Zmv]
  by_cases e:m=[]
  ·subst e
   simpa[Zct,Zac]using h
  ·rw[if_neg e]
   exact ZhX m 0 0 h
 same:=fun a=>by
  obtain⟨a,b,c,d⟩:=a
  simp[Instr.sameBits,numV]
end
section
variable  {α:Type}[DecidableEq α]
def idxM:List (α×Int)->α->Nat
 | [],_=>0
 | (k,_) :: r,a=>if a=k then 0 else idxM r a+1
theorem put_put (m:List (α×Int))(a:α)(u w:Int):putM (putM m a u) a w=putM m a w:=by
 induction m with
 | nil=>simp[putM]
 | cons p r ih=>
  obtain⟨k,v⟩:=p
  rw[putM,putM]
  by_cases h:a=k
  ·subst h
   rw[if_pos rfl,if_pos rfl,putM,if_pos rfl]
  ·rw[if_neg h,if_neg h,putM,if_neg h,ih]
theorem find_idx {m:List (α×Int)}{a:α}{i j:Nat}{v:Value}(h:Zct m a i=some (j,v)):j=i+idxM m a∧idxM m a<m.length∧putM m a (getM m a)=m:=by
 induction m generalizing i with
 | nil=>simp[Zct]at h
 | cons p r ih=>
  obtain⟨k,u⟩:=p
  rw[Zct]at h
  rw[idxM,putM,getM]
  by_cases hk:a=k
  ·rw[if_pos hk]at h
   simp only[Option.some.injEq,Prod.mk.injEq]at h
   rw[if_pos hk,if_pos hk,if_pos hk]
   exact⟨by omega,by simp,rfl⟩
  ·rw[if_neg hk]at h
   obtain⟨h1,h2,h3⟩:=ih h
   rw[if_neg hk,if_neg hk,if_neg hk,h3]
   exact⟨by omega,by simp;omega,rfl⟩
theorem Zmu {m:List (α×Int)}{a:α}{i:Nat}(h:Zct m a i=none):idxM m a=m.length:=by
 induction m generalizing i with
 | nil=>rfl
 | cons p r ih=>
  obtain⟨k,u⟩:=p
  rw[Zct]at h
  split at h
  ·simp at h
  ·rename_i hk
   rw[idxM,if_neg hk,ih h];simp
theorem ZkD (m:List (α×Int))(a:α)(w:Int):idxM (putM m a w) a=idxM m a∧idxM m a<(putM m a w).length:=by
 induction m with
 | nil=>simp[putM,idxM]
 | cons p r ih=>
  obtain⟨k,v⟩:=p
  rw[putM,idxM]
  by_cases h:a=k
  ·rw[if_pos h,if_pos h,idxM,if_pos h];simp
  ·rw[if_neg h,if_neg h,idxM,if_neg h];simp;exact ih
theorem stamp_at {kv:α->Value}(m:List (α×Int))(a:α)(b:Nat)(w:Int)(h:idxM m a<m.length):(esFrom kv b m).findIdx? (fun e=>(e.born:Int) == ((b+idxM m a:Nat):Int))=some (idxM m a)∧(esFrom kv b m).modify (idxM m a) (fun e=>{ e with val:=vi w })=esFrom kv b (putM m a w)∧(putM m a w).length=m.length:=by
 induction m generalizing b with
 | nil=>simp at h
 | cons p r ih=>
  obtain⟨k,v⟩:=p
  rw[idxM]at h ⊢
  rw[putM]
  by_cases hk:a=k
  ·subst hk
   rw[if_pos rfl,if_pos rfl,esFrom,List.findIdx?_cons,Nat.add_zero]
   refine⟨by simp,?_,by simp⟩
   rw[esFrom];rfl
  ·rw[if_neg hk]at h ⊢
   rw[if_neg hk]
   obtain⟨h1,h2,h3⟩:=ih (b+1) (by simpa using h)
   rw[show b+1+idxM r a=b+(idxM r a+1) by omega]at h1
   refine⟨?_,?_,by simp[h3]⟩
   ·rw[esFrom,List.findIdx?_cons,h1]
    have:(((⟨kv k,vi v,b⟩:MapEntry).born:Int) == ((b+(idxM r a+1):Nat):Int))=false:=by simp;omega
    simp only[this,Bool.false_eq_true,if_false,Option.map_some]
   ·rw[esFrom,esFrom,<-h2];rfl
end
section
variable  {P:Prg}{d:Option Nat}{next:NSt->Hp->Prop}{σ:NSt}{H:Hp}{x y z:Operand}{v:Value}{ty:TypeId}{α:Type}[DecidableEq α]{kv:α->Value}{T K E:TypeId}
theorem ZgD {m:List (α×Int)}{a:α}{r:Nat}{by_:Nat}(hu:P.toProgram.underlying T=some (.map K E))(hk:KeyT P.toPQ K kv)(ti:TI P.toProgram E 1 (vi 0) by_)(e1:σ.get x=some (.map (some r)))(e2:σ.get y=some (kv a))(hr:H r=some (mapO kv m,true))(hst:P.still H.gh=false)
  (h:next (σ.set d (.tuple #[vi (getM m a),vi (idxM m a)])) (H.ins r (mapO kv (putM m a (getM m a))))):(NOp.raw (.mapEntry T x y) ty).m P d next σ H:=by
 obtain⟨inf,i1,i2,i3,i4⟩:=ti.ex
 refine Zbh (by simp[Op.operands,e1,e2]) (s:=Instr.mapEntry T (.map (some r)) (kv a)) (by simp[execOp,bare,e1,e2]) ?_
 simp only[Instr.mapEntry,Zaa,Zad hu]
 refine⟨_,_,⟨hst,hr⟩,rfl,rfl,?_⟩
 rw[mapO,wpL]
 simp only[Zaa,Zac]
 refine hk.chk _ _ ?_
 refine hk.fnd m a ?_
 cases hf:Zct m a 0 with
 | none=>
  obtain⟨h1,h2⟩:=ZgV m a 0 (getM m a) hf
  have h3:=Zmu hf
  simp only[Zaa,Zb0 i1 i3]
  refine⟨_,⟨hst,hr⟩,rfl,rfl,rfl,?_⟩
  have:Obj.map ((esFrom kv 0 m).toArray.push { key:=kv a,val:=vi 0,born:=m.length }) (m.length+1)=mapO kv (putM m a (getM m a)):=by
   rw[h1,mapO,ZkK,Nat.zero_add,h2]
   simp
  rw[this,wpL]
  simp only[Zac]
  rw[h2,h3]at h
  rw[h2]
  exact h
 | some p=>
  obtain⟨j,u⟩:=p
  obtain⟨h1,e,h2,h3,h4,h5,h6,h7⟩:=ZgU (kv:=kv) m a 0 0 j u (getM m a) hf
  obtain⟨g1,g2,g3⟩:=find_idx hf
  rw[Nat.sub_zero]at h2 h5 h6
  simp only[List.getElem?_toArray,h2,Option.map_some,Option.getD_some,Instr.keyThatStays,Zaa,h3,hk.same,if_true,Zac]
  refine⟨_,⟨hst,hr⟩,rfl,rfl,rfl,?_⟩
  have hm:Obj.map ((esFrom kv 0 m).toArray.modify j fun e=>{ e with key:=kv a }) m.length=mapO kv (putM m a (getM m a)):=by
   have:(esFrom kv 0 m).modify j (fun e=>{ e with key:=kv a })=esFrom kv 0 m:=by
    refine List.ext_getElem? fun i=>?_
    rw[List.getElem?_modify]
    by_cases e':j=i
    ·subst e'
     rw[h2]
     show some (if j=j then _ else _)=some e
     rw[if_pos rfl,<-h3]
    ·simp[e']
   rw[g3,mapO]
   congr 1
   rw[List.modify_toArray,this]
  rw[hm,wpL]
  rw[h4,h5]
  have:Value.int IntKind.i64 ((0+j:Nat):Int)=vi (idxM m a):=by rw[g1];simp
  show next (σ.set d (.tuple #[vi (getM m a),goInt ((0+j:Nat):Int)])) _
  rw[show goInt ((0+j:Nat):Int)=vi (idxM m a) from this]
  exact h
theorem ZiE {m:List (α×Int)}{a:α}{r:Nat}{w:Int}(e1:σ.get x=some (.map (some r)))(e2:σ.get y=some (vi (idxM m a)))(e3:σ.get z=some (vi w))(hr:H r=some (mapO kv m,true))(hi:idxM m a<m.length)(hst:P.still H.gh=false)
  (h:next (σ.set d undef) (H.ins r (mapO kv (putM m a w)))):(NOp.raw (.entryStore T x y z) ty).m P d next σ H:=by
 refine Zkv (by simp[Op.operands,e1,e2,e3]) (s:=Instr.entryStore T (.map (some r)) (vi (idxM m a)) (vi w)) (by simp[execOp,bare,e1,e2,e3]) ?_
 obtain⟨h1,h2,h3⟩:=stamp_at (kv:=kv) m a 0 w hi
 rw[Nat.zero_add]at h1
 simp only[Instr.entryStore,Zaa]
 refine⟨_,_,⟨hst,hr⟩,rfl,rfl,?_⟩
 rw[mapO,wpL]
 simp only[Zaa,asInt,asIntOf,Zac]
 have h1':(esFrom kv 0 m).toArray.findIdx? (fun e=>(e.born:Int) == (idxM m a:Int))=some (idxM m a):=by rw[List.findIdx?_toArray];exact h1
 rw[h1']
 simp only
 refine⟨_,⟨hst,hr⟩,rfl,rfl,rfl,?_⟩
 have:Obj.map ((esFrom kv 0 m).toArray.modify (idxM m a) fun e=>{ e with val:=vi w }) m.length=mapO kv (putM m a w):=by
  rw[mapO,h3,<-h2]
  simp
 rw[this];exact h
def itO (r n:Nat)(seen:Array Nat):Obj:=.mapIter (some r) n seen n
theorem om_range {m:List (α×Int)}{r:Nat}{pm:Bool}(hu:P.toProgram.underlying T=some (.map K E))(e1:σ.get x=some (.map (some r)))(hr:H r=some (mapO kv m,pm))(hst:P.still H.gh=false)
  (h:∀ i,H i=none->next (σ.set d (.pointer (some ⟨i,0,none⟩))) (H.ins i (itO r m.length #[]))):(NOp.raw (.range T x) ty).m P d next σ H:=by
 refine Zbh (by simp[Op.operands,e1]) (s:=Instr.range T (.map (some r))) (by simp[execOp,bare,e1]) ?_
 simp only[Instr.range,Zaa,Zad hu]
 refine⟨_,_,⟨hst,hr⟩,rfl,rfl,?_⟩
 rw[mapO,wpL]
 simp only[Zaa,newObj,Zac]
 exact⟨hst,fun i hi=>h i hi⟩
def ZbH (es:List MapEntry)(seen:Array Nat):List MapEntry:=es.filter fun e=>!seen.contains e.born
theorem ZiY {m:List (α×Int)}{b:Nat}:∀ e∈esFrom kv b m,b<=e.born∧e.born<b+m.length:=by
 induction m generalizing b with
 | nil=>intro e he;simp[esFrom]at he
 | cons p r ih=>
  obtain⟨k,v⟩:=p
  intro e he
  rw[esFrom]at he
  rcases List.mem_cons.1 he with rfl | he
  ·exact⟨Nat.le_refl _,by simp⟩
  ·have:=ih e he
   simp only[List.length_cons]
   omega
theorem om_next {m:List (α×Int)}{r i:Nat}{seen:Array Nat}{pm:Bool}(e1:σ.get x=some (.pointer (some ⟨i,0,none⟩)))(hi:H i=some (itO r m.length seen,true))(hr:H r=some (mapO kv m,pm))(hst:P.still H.gh=false)
  (h0:ZbH (esFrom kv 0 m) seen=[]->next (σ.set d (.tuple #[.bool false])) H)
  (h1:∀ e∈ZbH (esFrom kv 0 m) seen,next (σ.set d (.tuple #[.bool true,e.key,e.val])) (H.ins i (itO r m.length (seen.push e.born)))):(NOp.raw (.next x false) ty).m P d next σ H:=by
 refine Zbh (by simp[Op.operands,e1]) (s:=Instr.next (.pointer (some ⟨i,0,none⟩)) false ty) (by simp[execOp,bare,e1]) ?_
 simp only[Instr.next,Zaa]
 refine⟨_,_,⟨hst,hi⟩,rfl,rfl,?_⟩
 rw[itO,wpL]
 simp only[Zaa]
 refine⟨_,_,⟨hst,hr⟩,rfl,rfl,?_⟩
 rw[mapO,wpL]
 have hold:(esFrom kv 0 m).toArray.isEmpty=false->(esFrom kv 0 m).toArray.all (fun e=>decide (e.born ≥ m.length))=false:=by
  intro he
  cases hm:esFrom kv 0 m with
  | nil=>rw[hm]at he;simp at he
  | cons e l=>
   have:=(ZiY (kv:=kv) (m:=m) (b:=0) e (by rw[hm];simp)).2
   simp
   intro h';omega
 have hc:(!seen.isEmpty && !(esFrom kv 0 m).toArray.isEmpty && (esFrom kv 0 m).toArray.all (fun e=>decide (e.born ≥ m.length)))=false:=by
  cases he:(esFrom kv 0 m).toArray.isEmpty with
  | true=>simp
  | false=>rw[hold he];simp
 simp only[hc,Bool.false_eq_true,if_false]
 have hf1:((esFrom kv 0 m).toArray.filter fun e=>!seen.contains e.born)=(ZbH (esFrom kv 0 m) seen).toArray:=by simp[ZbH]
 have hf2:((ZbH (esFrom kv 0 m) seen).toArray.filter fun e=>decide (e.born<m.length))=(ZbH (esFrom kv 0 m) seen).toArray:=by
  simp only[List.filter_toArray',List.size_toArray]
  congr 1
  rw[List.filter_eq_self]
  intro e he
  have:=(ZiY (kv:=kv) (m:=m) (b:=0) e (List.mem_filter.1 he).1).2
  simp;omega
 have hf3:((ZbH (esFrom kv 0 m) seen).toArray.filter fun e=>decide (e.born ≥ m.length))=#[]:=by
  simp only[List.filter_toArray',List.size_toArray]
  congr 1
  rw[List.filter_eq_nil_iff]
  intro e he
  have:=(ZiY (kv:=kv) (m:=m) (b:=0) e (List.mem_filter.1 he).1).2
  simp;omega
 rw[hf1,hf2,hf3]
 generalize ZbH (esFrom kv 0 m) seen=L at *
 simp only[Zaa,choose]
 rw[wpL]
 cases L with
 | nil=>
  have:Question.forced (Question.mapNext ((if ([]:List MapEntry).toArray.isEmpty=true then #[none] else #[])++(([]:List MapEntry).toArray++#[]).map some:Array (Option MapEntry)).size)=true:=by simp[Question.forced]
  rw[if_pos this,wpL]
  simp
  exact h0 rfl
 | cons e l=>
  have hsz:((if (e :: l).toArray.isEmpty=true then #[none] else #[])++((e :: l).toArray++#[]).map some:Array (Option MapEntry))=((e :: l).map some).toArray:=by simp
  rw[hsz]
  have key:∀ t,t<(e :: l).length->wpL P.toPQ (match (((e :: l).map some).toArray)[t]? with
   | some (some e)=>do
    setObj i (.mapIter (some r) m.length (seen.push e.born) m.length)
    pure (.tuple #[.bool true,e.key,e.val])
   | some none=>(pure (.tuple #[.bool false]):Sem Value)
   | none=>stuck "Next: no such candidate") (fun v _ H'=>next (σ.set d v) H') false H:=by
   intro t ht
   have e2:(((e :: l).map some).toArray)[t]? = some (some (e :: l)[t]):=by
    simp only[List.getElem?_toArray,List.getElem?_map,List.getElem?_eq_getElem ht,Option.map_some]
   rw[e2]
   simp only[Zaa]
   refine⟨_,⟨hst,hi⟩,rfl,rfl,rfl,?_⟩
   rw[wpL]
   simp only[Zac]
   exact h1 _ (List.getElem_mem ht)
  split
  ·rw[wpL]
   exact key 0 (by simp)
  ·refine⟨hst,fun t=>?_⟩
   rw[wpL]
   refine key _ ?_
   simp only[Question.cut,List.size_toArray,List.length_map]
   exact Nat.mod_lt _ (by simp)
theorem Zov {m:List (α×Int)}{b:Nat}{e:MapEntry}(he:e∈esFrom kv b m):(esFrom kv b m).find? (fun f=>f.born == e.born)=some e:=by
 induction m generalizing b with
 | nil=>simp[esFrom]at he
 | cons p r ih=>
  obtain⟨k,v⟩:=p
  rw[esFrom]at he ⊢
  rcases List.mem_cons.1 he with rfl | he
  ·simp
  ·have:=(ZiY e he).1
   rw[List.find?_cons]
   have hne:((⟨kv k,vi v,b⟩:MapEntry).born == e.born)=false:=by simp;omega
   rw[hne]
   exact ih he
theorem om_entry {m:List (α×Int)}{r i:Nat}{seen:Array Nat}{pm:Bool}{e:MapEntry}(e1:σ.get x=some (.pointer (some ⟨i,0,none⟩)))(hi:H i=some (itO r m.length (seen.push e.born),true))(hr:H r=some (mapO kv m,pm))(he:e∈esFrom kv 0 m)(hst:P.still H.gh=false)
  (h:next (σ.set d (.tuple #[e.key,e.val])) H):(NOp.raw (.entry x) ty).m P d next σ H:=by
 refine Zbh (by simp[Op.operands,e1]) (s:=Instr.entry (.pointer (some ⟨i,0,none⟩))) (by simp[execOp,bare,e1]) ?_
 simp only[Instr.entry,Zaa]
 refine⟨_,_,⟨hst,hi⟩,rfl,rfl,?_⟩
 rw[itO,wpL]
 simp only[Array.back?_push,Zaa]
 refine⟨_,_,⟨hst,hr⟩,rfl,rfl,?_⟩
 rw[mapO,wpL]
 simp only[bne_self_eq_false,Bool.false_eq_true,if_false]
 have:(esFrom kv 0 m).toArray.find? (fun f=>f.born == e.born)=some e:=by rw[List.find?_toArray];exact Zov he
 rw[this]
 exact h
end
end Go.Proofs
end
