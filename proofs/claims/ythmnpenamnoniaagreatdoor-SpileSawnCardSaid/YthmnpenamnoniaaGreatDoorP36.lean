import Derived.Test.YthmnpenamnoniaaGreatDoorP35
set_option linter.all false
section
open Go Go.LL
namespace Go.Proofs
theorem own_add {α β:Type}[Enc α][Enc β]{G H1 H2:Hp}{E E2:TypeId}{v w:Value}{l:List α}{l2:List β}{bb b2:Option Nat}(hG:Inc G H1)(h1:Own G H1 E v l bb)(hi:Inc H1 H2)(h2:Own H1 H2 E2 w l2 b2):∃ G',Inc G G'∧Inc G' H2∧Own G' H2 E v l bb∧SlAt G' w l2:=by
 have hi':Inc G H2:=hG.trans hi
 obtain⟨h0,⟨q1,q2,q3⟩ | ⟨r,cap,rest,q1,q2,q3,q4,q5⟩⟩:=h2.own
 ·have:l2=[]:=List.eq_nil_of_length_eq_zero q2
  subst this
  exact⟨G,.refl G,hi',h1.inc hi,by rw[q1];exact .nil G⟩
 ·have hr:=h2.fresh r q1
  have hG0:G r=none:=Za9 hG hr
  refine⟨G.ins r (.cells (encs l2++rest).toArray E2),Zai hG0,fun b x hb=>?_,⟨(h1.inc hi).own,fun r' e=>?_⟩,_,cap,q2,fun _=>⟨_,rfl,ZbK Zar⟩⟩
  ·by_cases e:b=r
   ·subst e;rw[Hp.ins_same]at hb;obtain rfl:=Option.some.inj hb;exact q3
   ·rw[Hp.ins_other _ _ e]at hb;exact hi' b x hb
  ·have hne:r'≠r:=by
    rintro rfl
    obtain⟨_,⟨_,_,e3⟩ | ⟨r2,_,_,e3,_,e4,_⟩⟩:=h1.own
    ·rw[e3]at e;simp at e
    ·rw[e3]at e
     obtain rfl:=Option.some.inj e
     rw[hr]at e4;simp at e4
   rw[Hp.ins_other _ _ hne];exact h1.fresh r' e
def Zgy (m n:Nat):List Nat:=(List.range n).filter fun i=>m.testBit i
theorem Zmi (m n:Nat):Zgy m (n+1)=Zgy m n++if m.testBit n then [n] else []:=by
 rw[Zgy,List.range_succ,List.filter_append,Zgy]
 congr 1
 cases h:m.testBit n<;>simp[h]
def ckAt (b:Bk)(i:Nat):SCk:=b.cks.getD i ⟨0,0,0⟩
def Zcl (b:Bk)(m n:Nat):List SCk:=(Zgy m n).map (ckAt b)
def ZcJ (m n:Nat):List Int:=(Zgy m n).map fun (i:Nat)=>(i:Int)
def Ze8 (b:Bk)(m:Nat):Bk:={ b with cks:=Zcl b m b.cks.length }
def Zei (b:Bk)(m:Nat):List Int:=ZcJ m b.cks.length
theorem Zft (m n:Nat):(Zgy m n).length<=n:=by
 have:=List.length_filter_le (fun i=>m.testBit i) (List.range n)
 rwa [List.length_range]at this
theorem Zen.alone {b:Bk}(v:Zen b)(m:Nat):Zen (Ze8 b m) where
 op:=v.op
 sl:=v.sl
 n:=v.n
 pts:=v.pts
 ckn:=by
  have:=Zft m b.cks.length
  have:=v.ckn
  show ((Zgy m b.cks.length).map (ckAt b)).length<=3
  rw[List.length_map];omega
 cks:=fun c hc=>by
  obtain⟨i,hi,rfl⟩:=List.mem_map.1 hc
  have:i<b.cks.length:=by
   have:=(List.mem_filter.1 hi).1
   simpa using this
  rw[ckAt,Zbc this]
  exact v.cks _ (List.getElem_mem this)
theorem shr_v {m j:Nat}(hj:j<=64):bitV .shr .i64 (m:Int) (j:Int)=vi ((m / 2 ^ j:Nat):Int):=by
 show Value.int .i64 (Int.fdiv (m:Int) (2 ^ min (j:Int).toNat 64))=_
 have e:min (j:Int).toNat 64=j:=by omega
 rw[e]
 congr 1
 rw[Int.fdiv_eq_ediv_of_nonneg _ (by exact Int.le_of_lt (Int.pow_pos (by decide)))]
 simp
theorem and1_v {x:Nat}(hx:x<9223372036854775808):bitV .and .i64 (x:Int) 1=vi ((x % 2:Nat):Int):=by
 have h1:(BitVec.ofInt 64 (x:Nat)).toNat=x:=by simp[BitVec.toNat_ofInt];omega
 have h2:(BitVec.ofInt 64 (1:Int)).toNat=1:=rfl
 have h3:(BitVec.ofInt 64 (x:Nat) &&& BitVec.ofInt 64 1).toNat=x % 2:=by rw[BitVec.toNat_and,h1,h2,Nat.and_one_is_mod]
 show Value.int .i64 (IntKind.i64.wrap ((BitVec.ofInt 64 (x:Nat) &&& BitVec.ofInt 64 1).toNat:Nat))=_
 rw[h3,ZbZ ⟨by omega,by omega⟩]
theorem bit_of (m j:Nat):(m / 2 ^ j % 2=1)↔m.testBit j=true:=by
 rw[Nat.testBit_eq_decide_div_mod_eq];simp
section
variable  {P:Prg}[Tz P][Loud P]{H:Hp}
set_option maxHeartbeats 2000000
theorem alone_ok {bv:Value}{b:Bk}{m:Nat}(hb:BkAt H bv b)(hl2:b.cks.length<=60)(hm:m<9223372036854775808) :
  LL.Zag P 116 #[bv,vi m] H fun v H'=>Inc H H'∧∃ w lv bb,v=.tuple #[w,lv]∧BkAt H' w (Ze8 b m)∧Own H H' 3 lv (Zei b m) bb:=by
 have hs:=Loud.loud (P:=P)
 have hb0:=hb
 obtain⟨pv,cv,rfl,hp,hc⟩:=hb
 refine IsN.m (isn c120) (args:=[.agg #[vi b.op,vi b.sl,pv,cv],vi m]) rfl ?_
 unfold n120
 obtain⟨Ap,cp,rfl,hp'⟩:=id hp
 obtain⟨Ac,cc,rfl,hc'⟩:=id hc
 refine wkT ?_
 refine ZaO (α:=(Option Addr×Nat)×(Option Addr×Nat)×Option Nat×Option Nat) b.cks.length (fun j s H'=>Inc H H'∧Own H H' 3 (.slice s.1.1 (ZcJ m j).length s.1.2) (ZcJ m j) s.2.2.1∧Own H H' 101 (.slice s.2.1.1 (Zcl b m j).length s.2.1.2) (Zcl b m j) s.2.2.2∧Apart s.2.2.1 s.2.2.2)
  (fun j s=>[(1,vi m),(2,vi 0),(4,vi 0),(5,.slice none 0 0),(6,.slice s.1.1 (ZcJ m j).length s.1.2),(7,vi 0),(15,.slice Ac b.cks.length cc),(16,vi b.cks.length),(17,vi j)])
  (fun j s=>[(2,[vi b.op,vi b.sl,.slice Ap b.pts.length cp,.slice Ac b.cks.length cc]),(4,[vi 0,vi 0,.slice none 0 0,.slice none 0 0]),(7,[vi b.op,vi b.sl,.slice Ap b.pts.length cp,.slice s.2.1.1 (Zcl b m j).length s.2.1.2])])
  ((none,0),(none,0),none,none) ⟨.refl H,.nil H H 3,.nil H H 101,.none _⟩ ⟨rfl,rfl,rfl,rfl,rfl,rfl,rfl,rfl,rfl,trivial⟩ ⟨rfl,rfl,rfl,trivial⟩ ?_
 rintro j ⟨⟨A6,c6⟩,⟨A7,c7⟩,b6,b7⟩ H1 hj ⟨hi1,o6,o7,hap⟩
 simp only at o6 o7 hap
 refine wkT ?_
 refine wiT (fun h1=>?_) (fun h1=>?_)
 ·have hj':j<b.cks.length:=by omega
  have hms:=Zmi m j
  refine wkT ?_
  refine ZaE (hc.inc hi1) rfl rfl rfl (i:=j) hj' fun a ha=>?_
  refine wkT ?_
  refine Zao (hs _) rfl ha rfl ?_
  refine wkT ?_
  refine Zca rfl rfl (.inl rfl) (by omega) (shr_v (by omega)) ?_
  refine wkT ?_
  refine ZfW (v:=vi ((m / 2 ^ j % 2:Nat):Int)) rfl rfl (.inl rfl) (and1_v (Nat.lt_of_le_of_lt (Nat.div_le_self _ _) hm)) ?_
  refine wkT ?_
  refine wiT (fun h2=>?_) (fun h2=>?_)
  ·have ht:m.testBit j=true:=(bit_of m j).1 (by omega)
   rw[ht,if_pos rfl]at hms
   have eN:ZcJ m (j+1)=ZcJ m j++[(j:Int)]:=by rw[ZcJ,hms,List.map_append];rfl
   have eC:Zcl b m (j+1)=Zcl b m j++[b.cks[j]]:=by rw[Zcl,hms,List.map_append,List.map_singleton,ckAt,Zbc hj'];rfl
   have lN:(ZcJ m j).length<=j:=by rw[ZcJ,List.length_map];exact Zft m j
   have lC:(Zcl b m j).length<=j:=by rw[Zcl,List.length_map];exact Zft m j
   refine wkT ?_
   refine Zat (cs:=[vi (j:Int)]) (hs _) rfl fun r1 hr1=>?_
   refine kp_l hs ?_
   refine wkT ?_
   refine ZbU (l':=[(j:Int)]) (und u34) (und u34) (tif t3) rfl (by decide) (hi1.trans (Zai hr1)) (o6.ins hr1) ZcO rfl (by simp;omega) (by omega) rfl rfl (hs _) fun v6' H2 b6' k1 k2 k3=>?_
   obtain⟨o7',hap'⟩:=(o6.ins hr1).other (o7.ins hr1) hap k3
   refine kp_l hs ?_
   refine wkT ?_
   refine Zat (cs:=[vi b.cks[j].p,vi b.cks[j].gl,vi b.cks[j].gh]) (hs _) rfl fun r2 hr2=>?_
   refine kp_l hs ?_
   refine wkT ?_
   refine ZbU (l':=[b.cks[j]]) (und u23) (und u23) (tif t51) rfl (by decide) (k1.trans (Zai hr2)) (o7'.ins hr2) Zi8 rfl (by simp;omega) (by omega) rfl rfl (hs _) fun v7' H3 b7' k4 k5 k6=>?_
   obtain⟨o6'',hap''⟩:=(o7'.ins hr2).other (k2.ins hr2) hap'.symm k6
   rw[<-eN]at o6''
   rw[<-eC]at k5
   obtain⟨A6',c6',rfl,_⟩:=id o6''.sl
   obtain⟨A7',c7',rfl,_⟩:=id k5.sl
   refine wkT ?_
   exact⟨(⟨j+1,by omega⟩,((A6',c6'),(A7',c7'),b6',b7')),slt (by omega),⟨k4,o6'',k5,hap''.symm⟩,⟨rfl,rfl,rfl,rfl,rfl,rfl,rfl,rfl,rfl,trivial⟩,⟨rfl,rfl,rfl,trivial⟩,rfl⟩
  ·have ht:m.testBit j=false:=by
    cases hh:m.testBit j with
    | false=>rfl
    | true=>have:=(bit_of m j).2 hh;omega
   rw[ht]at hms
   simp only[Bool.false_eq_true,if_false,List.append_nil]at hms
   have eN:ZcJ m (j+1)=ZcJ m j:=by rw[ZcJ,hms];rfl
   have eC:Zcl b m (j+1)=Zcl b m j:=by rw[Zcl,hms];rfl
   rw[<-eN]at o6
   rw[<-eC]at o7
   refine wkT ?_
   exact⟨(⟨j+1,by omega⟩,((A6,c6),(A7,c7),b6,b7)),slt (by omega),⟨hi1,o6,o7,hap⟩,⟨rfl,rfl,rfl,rfl,by rw[eN];rfl,rfl,rfl,rfl,rfl,trivial⟩,⟨rfl,rfl,by rw[eC];rfl,trivial⟩,rfl⟩
 ·have:j=b.cks.length:=by omega
  subst this
  refine wkT ?_
  exact⟨hi1,_,_,_,rfl,⟨_,_,rfl,hp.inc hi1,o7.sl⟩,o6⟩
end
def oddF (b:Bk)(j:Nat):List (List Int):=((List.range j).filter fun m=>!(Zc6 (Ze8 b m))).map (Zei b)
theorem Zkf (b:Bk)(j:Nat):oddF b (j+1)=oddF b j++if Zc6 (Ze8 b j) then [] else [Zei b j]:=by
 rw[oddF,List.range_succ,List.filter_append,List.map_append,oddF]
 congr 1
 cases h:Zc6 (Ze8 b j)<;>simp[h]
theorem Zma (b:Bk)(j:Nat):(oddF b j).length<=j:=by
 rw[oddF,List.length_map]
 have:=List.length_filter_le (fun m=>!(Zc6 (Ze8 b m))) (List.range j)
 rwa [List.length_range]at this
theorem Zmj (n:Nat):Zgy (2 ^ n-1) n=List.range n:=by
 rw[Zgy,List.filter_eq_self]
 intro i hi
 rw[Nat.testBit_two_pow_sub_one]
 simpa using hi
theorem Zll (b:Bk):Ze8 b (2 ^ b.cks.length-1)=b:=by
 have:Zcl b (2 ^ b.cks.length-1) b.cks.length=b.cks:=by
  rw[Zcl,Zmj]
  refine List.ext_getElem (by simp) fun i h1 h2=>?_
  simp only[List.getElem_map,List.getElem_range,ckAt]
  exact Zbc h2 _
 rw[Ze8,this]
theorem odd_pos {b:Bk}(h:Zc6 b=false):1<=(oddF b (2 ^ b.cks.length)).length:=by
 have h1:2 ^ b.cks.length=(2 ^ b.cks.length-1)+1:=by have:=Nat.two_pow_pos b.cks.length;omega
 rw[h1,Zkf,Zll,h]
 simp
def ZmL (b:Bk):List Int:=Zbq fewF ((oddF b (2 ^ b.cks.length)).getD 0 []) ((oddF b (2 ^ b.cks.length)).drop 1)
theorem shl_v {n:Nat}(h:n<=3):bitV .shl .i64 1 (n:Int)=vi ((2 ^ n:Nat):Int):=by
 match n,h with
 | 0,_=>rfl
 | 1,_=>rfl
 | 2,_=>rfl
 | 3,_=>rfl
theorem u157:Tryz.prog.underlying 73=some (.slice 29):=by kernel_rfl
theorem t34:tiOf Tryz.prog 29=some (1,some (.slice none 0 0),24):=by kernel_rfl
theorem Zlm (b:Bk)(m:Nat):(Zei b m).length<=b.cks.length:=by rw[Zei,ZcJ,List.length_map];exact Zft _ _
theorem Zl9 {b:Bk}{j:Nat}{l:List Int}(h:l∈oddF b j):l.length<=b.cks.length:=by
 obtain⟨m,_,rfl⟩:=List.mem_map.1 h
 exact Zlm b m
section
variable  {P:Prg}[Tz P][Loud P]{H:Hp}
set_option maxHeartbeats 2000000
theorem Clash_ok {bv:Value}{b:Bk}(hb:BkAt H bv b)(hg:Zbh H)(hl:b.pts.length<=1000000)(hl2:b.cks.length<=1000000) :
  LL.Zag P 45 #[bv] H fun v H'=>Inc H H'∧∃ w,v=.tuple #[w,vi (snag b)]∧SlAt H' w (if snag b=0∧Zc6 b=false then ZmL b else []):=by
 have hs:=Loud.loud (P:=P)
 have hb0:=hb
 obtain⟨pv,cv,rfl,hp,hc⟩:=hb
 refine IsN.m (isn c37) (args:=[.agg #[vi b.op,vi b.sl,pv,cv]]) rfl ?_
 unfold n37
 obtain⟨Ap,cp,rfl,hp'⟩:=id hp
 obtain⟨Ac,cc,rfl,hc'⟩:=id hc
 refine wkT ?_
 refine Zab (vs:=[.agg #[vi b.op,vi b.sl,.slice Ap b.pts.length cp,.slice Ac b.cks.length cc]]) rfl (ZaJ hb0 hg hl hl2 (hs _)) ?_
 rintro v _ ⟨rfl,rfl⟩
 refine wkT ?_
 refine wiT (fun h1=>?_) (fun h1=>?_)
 ·refine wkT ?_
  exact⟨.refl _,_,rfl,by rw[if_neg (by rintro⟨h,_⟩;exact h1 h)];exact .nil _⟩
 ·have val:=ZaR h1
  have hck:=val.ckn
  refine wkT ?_
  refine Zab (vs:=[.agg #[vi b.op,vi b.sl,.slice Ap b.pts.length cp,.slice Ac b.cks.length cc]]) rfl (Zi7 hb0 val.good) ?_
  rintro v H1 ⟨hi1,rfl⟩
  refine wkT ?_
  refine wiT (fun h2=>?_) (fun h2=>?_)
  ·refine wkT ?_
   exact⟨hi1,_,by rw[h1];rfl,by rw[if_neg (by simp[Zc6,h2])];exact .nil _⟩
  ·have h2:Zc6 b=false:=by rw[Zc6,h2];rfl
   refine wkT ?_
   refine Zca rfl rfl (.inr rfl) (by omega) (shl_v hck) ?_
   refine wkT ?_
   have hpw:2 ^ b.cks.length<=2 ^ 3:=Nat.pow_le_pow_right (by decide) hck
   refine ZaO (α:=Hp×Value×List Value×Option Nat) (2 ^ b.cks.length) (fun j s H'=>Inc H s.1∧Inc s.1 H'∧Own s.1 H' 29 s.2.1 s.2.2.1 s.2.2.2∧LLAt s.1 s.2.2.1 (oddF b j))
    (fun j s=>[(1,vi 0),(2,.slice none 0 0),(3,vi 0),(5,vi 0),(6,s.2.1),(22,vi (2 ^ b.cks.length:Nat)),(23,vi j)])
    (fun j s=>[(1,[vi b.op,vi b.sl,.slice Ap b.pts.length cp,.slice Ac b.cks.length cc]),(5,[vi b.op,vi b.sl,.slice Ap b.pts.length cp,.slice Ac b.cks.length cc])])
    (H1,.slice none 0 0,[],none) ⟨hi1,.refl H1,.nil _ _ _,.nil _⟩ ⟨rfl,rfl,rfl,rfl,rfl,rfl,rfl,trivial⟩ ⟨rfl,rfl,trivial⟩ ?_
   rintro j ⟨G,v6,vs,b6⟩ H2 hj ⟨hG,hG2,o6,hls⟩
   simp only at hG hG2 o6 hls
   have hln:=hls.len
   have hol:=Zma b j
   refine wkT ?_
   refine wiT (fun h3=>?_) (fun h3=>?_)
   ·have hj':j<2 ^ b.cks.length:=by omega
    have hos:=Zkf b j
    refine wkT ?_
    refine Zab (vs:=[.agg #[vi b.op,vi b.sl,.slice Ap b.pts.length cp,.slice Ac b.cks.length cc],vi j]) rfl (alone_ok (m:=j) (hb0.inc (hG.trans hG2)) (by omega) (by omega)) ?_
    rintro v H3 ⟨hi3,w,lv,bb,rfl,hw,ow⟩
    obtain⟨_,_,rfl,⟨_,_,rfl,_⟩,⟨_,_,rfl,_⟩⟩:=id hw
    refine wkT ?_
    refine Zab (vs:=[_]) rfl (Zi7 hw (val.alone j).good) ?_
    rintro v H4 ⟨hi4,rfl⟩
    refine wkT ?_
    refine wiT (fun h4=>?_) (fun h4=>?_)
    ·obtain⟨G',g1,g2,g3,g4⟩:=own_add hG2 o6 (hi3.trans hi4) ⟨(ow.inc hi4).own,ow.fresh⟩
     rw[h4,if_neg (by decide)]at hos
     obtain⟨A9,c9,rfl,_⟩:=id g4
     refine wkT ?_
     refine Zat (cs:=[.slice A9 (Zei b j).length c9]) (hs _) rfl fun r5 hr5=>?_
     refine wkT ?_
     refine ZbU (l':=[Value.slice A9 (Zei b j).length c9]) (und u157) (und u157) (tif t34) rfl (by decide) (g2.trans (Zai hr5)) (g3.ins hr5) (Za3 (l:=[Value.slice A9 (Zei b j).length c9])) rfl (by simp;omega) (by omega) rfl rfl (hs _) fun v6' H5 b6' k1 k2 k3=>?_
     refine wkT ?_
     exact⟨(⟨j+1,by omega⟩,(G',v6',vs++[.slice A9 (Zei b j).length c9],b6')),slt (by omega),⟨hG.trans g1,k1,k2,by rw[hos];exact(hls.inc g1).snoc g4⟩,⟨rfl,rfl,rfl,rfl,rfl,rfl,rfl,trivial⟩,⟨rfl,rfl,trivial⟩,rfl⟩
    ·rw[h4,if_pos rfl,List.append_nil]at hos
     refine wkT ?_
     exact⟨(⟨j+1,by omega⟩,(G,v6,vs,b6)),slt (by omega),⟨hG,(hG2.trans hi3).trans hi4,(o6.inc hi3).inc hi4,by rw[hos];exact hls⟩,⟨rfl,rfl,rfl,rfl,rfl,rfl,rfl,trivial⟩,⟨rfl,rfl,trivial⟩,rfl⟩
   ·have:j=2 ^ b.cks.length:=by omega
    subst this
    have hpos:=odd_pos (b:=b) h2
    have hle2:=Zma b (2 ^ b.cks.length)
    obtain⟨A6,c6,f1,f2⟩:=Zew o6.own (by omega)
    have s6:=o6.sl
    subst f1
    have hd:=hls.at_ 0 (by omega) (by omega)
    refine wkT ?_
    refine ZaE s6 rfl rfl rfl (i:=0) (by omega) fun a ha=>?_
    refine wkT ?_
    refine Zaf (hs _) rfl ha ?_
    refine wkT ?_
    refine Zbu (lo:=1) (und u157) (tif t34) rfl rfl (by omega) ?_
    refine wkT ?_
    refine Zab (vs:=[vf 118,vs[0],_]) rfl (bestL_ok (hd.inc hG2) f2 ((hls.inc hG2).drop 1) (by simp;omega) (by have:=Zl9 (b:=b) (j:=2 ^ b.cks.length) (List.getElem_mem (show 0<_ by omega));omega) (fun l hl=>by have:=Zl9 (List.mem_of_mem_drop hl);omega) (hs _)) ?_
    rintro v _ ⟨rfl,hv⟩
    refine wkT ?_
    refine⟨hG.trans hG2,v,by rw[h1];rfl,?_⟩
    rw[if_pos ⟨h1,h2⟩,ZmL,Zbc (by omega)]
    exact hv
end
theorem qLuF0 {G:Prop} (h:G:=by
  refine wkT ?_
  exact⟨⟨j+1,by omega⟩,slt (by omega),hi2.trans hi3,⟨rfl,by rw[has];rfl,by rw[has];rfl,rfl,rfl,rfl,rfl,trivial⟩,⟨rfl,rfl,trivial⟩,rfl⟩):G:=h
theorem Zjr {α:Type}[DecidableEq α]:∀ (m:List (α×Int)) (a:α) (w:Int) (c:α),getM (putM m a w) c=if c=a then w else getM m c
 | [],a,w,c=>by simp[putM,getM]
 | (k,v) :: r,a,w,c=>by
  rw[putM]
  by_cases h:a=k
  ·subst h
   rw[if_pos rfl,getM,getM]
   by_cases hc:c=a
   ·rw[if_pos hc,if_pos hc]
   ·rw[if_neg hc,if_neg hc,if_neg hc]
  ·rw[if_neg h,getM,getM,Zjr r a w c]
   by_cases hc:c=k
   ·subst hc;rw[if_pos rfl,if_pos rfl,if_neg (Ne.symm h)]
   ·rw[if_neg hc,if_neg hc]
def ZjE (s:List (Int×Int)×Int)(g:Int):List (Int×Int)×Int:=(putM s.1 g (getM s.1 g+1),max s.2 (getM (putM s.1 g (getM s.1 g+1)) g))
def askW (L:List Int):List (Int×Int)×Int:=L.foldl ZjE ([],0)
theorem ZiV (L:List Int)(g:Int):askW (L++[g])=ZjE (askW L) g:=by rw[askW,List.foldl_append];rfl
theorem askW_le (L:List Int):(∀ c,0<=getM (askW L).1 c∧getM (askW L).1 c<=L.length)∧0<=(askW L).2∧(askW L).2<=L.length:=by
 have:∀ (n:Nat) (L:List Int),L.length=n->(∀ c,0<=getM (askW L).1 c∧getM (askW L).1 c<=L.length)∧0<=(askW L).2∧(askW L).2<=L.length:=by
  intro n
  induction n with
  | zero=>
   intro L hL
   have:L=[]:=List.eq_nil_of_length_eq_zero hL
   subst this
   exact⟨fun c=>⟨Int.le_refl _,Int.le_refl _⟩,Int.le_refl _,Int.le_refl _⟩
  | succ n ih=>
   intro L hL
   obtain⟨L',g,rfl⟩:∃ L' g,L=L'++[g]:=⟨L.dropLast,L.getLast (by rintro rfl;simp at hL),(List.dropLast_concat_getLast _).symm⟩
   rw[List.length_append,List.length_singleton]at hL
   obtain⟨h1,h2,h3⟩:=ih L' (by omega)
   rw[ZiV,ZjE,List.length_append,List.length_singleton]
   simp only[Zjr]
   have hg:=h1 g
   refine⟨fun c=>?_,?_,?_⟩
   ·split
    ·omega
    ·have:=h1 c;omega
   ·simp only[if_true];omega
   ·simp only[if_true];omega
 exact this _ L rfl
def Zbm (b:Bk)(i:Nat):List Int:=(Zae b).map fun x=>(Zas b x).get i
def askL (b:Bk)(n:Nat):Int×Int:=(List.range n).foldl (fun s i=>if (askW (Zbm b i)).2<s.2 then ((i:Int),(askW (Zbm b i)).2) else s) (-1,((Zae b).length:Int))
theorem ZmU (b:Bk)(n:Nat):askL b (n+1)=if (askW (Zbm b n)).2<(askL b n).2 then ((n:Int),(askW (Zbm b n)).2) else askL b n:=by
 rw[askL,List.range_succ,List.foldl_append];rfl
def askF (b:Bk):Int×Int:=askL b b.pts.length
theorem u162:Tryz.prog.underlying 201=some (.map 3 3):=by kernel_rfl
section
variable  {P:Prg}[Tz P][Loud P]{H:Hp}
set_option maxHeartbeats 2000000
theorem Ask_ok {bv:Value}{b:Bk}(hb:BkAt H bv b)(hg:Zbh H)(hl:b.pts.length<=1000000)(hl2:b.cks.length<=1000000) :
  LL.Zag P 40 #[bv] H fun v H'=>Inc H H'∧v=.tuple #[vi (if Zah b true=0 then (askF b).1 else 0),vi (if Zah b true=0 then (askF b).2 else 0),vi (Zah b true)]:=by
 have hs:=Loud.loud (P:=P)
 have hb0:=hb
 obtain⟨pv,cv,rfl,hp,hc⟩:=hb
 refine IsN.m (isn c39) (args:=[.agg #[vi b.op,vi b.sl,pv,cv]]) rfl ?_
 unfold n39
 refine wkT ?_
 refine Zab (vs:=[.agg #[vi b.op,vi b.sl,pv,cv],vf 65]) rfl (ZdO (there:=true) hb0 hg hl hl2 Zeu) ?_
 rintro v H1 ⟨hi1,⟨hz,rfl⟩ | ⟨hz,pv',cv',w,bb,e,rfl,ow⟩⟩
 ·refine wkT ?_
  refine wiT (fun h1=>?_) (fun h1=>?_)
  ·refine wkT ?_
   exact⟨hi1,by rw[if_neg hz,if_neg hz];rfl⟩
  ·exact absurd h1 hz
 simp only[Value.agg.injEq,Array.mk.injEq,List.cons.injEq,and_true]at e
 obtain⟨_,_,rfl,rfl⟩:=e
 have val:=ZaR (Zip hz).1
 have hlen:=Zbp val
 obtain⟨Ap,cp,rfl,hp'⟩:=id hp
 obtain⟨Ac,cc,rfl,hc'⟩:=id hc
 have hw:=ow.sl
 obtain⟨Aw,cw,rfl,_⟩:=id hw
 refine wkT ?_
 refine ZaW b.pts.length (fun j H'=>Inc H1 H')
  (fun j=>[(1,vi 0),(2,vi (askL b j).1),(3,vi (askL b j).2),(4,vi 0),(5,vi 0),(25,vi b.pts.length),(26,vi j)])
  (fun j=>[(1,[vi b.op,vi b.sl,.slice Ap b.pts.length cp,.slice Ac b.cks.length cc]),(5,[vi b.op,vi b.sl,.slice Ap b.pts.length cp,.slice Ac b.cks.length cc,.slice Aw (Zae b).length cw])])
  (.refl H1) ⟨rfl,rfl,rfl,rfl,rfl,rfl,rfl,trivial⟩ ⟨rfl,rfl,trivial⟩ ?_
 intro j H2 hj hi2
 refine wkT ?_
 refine wiT (fun h1=>?_) (fun h1=>?_)
 ·have hj':j<b.pts.length:=by omega
  have hj4:j<4:=by have:=val.n;omega
  refine wkT ?_
  refine ZgU (α:=Int) (kv:=vi) (hs _) fun r hr=>?_
  refine wkT ?_
  refine ZaO (α:=Unit) (Zae b).length (fun k _ H'=>Inc H2 H'∧H' r=some (mapO vi (askW ((Zbm b j).take k)).1,true))
   (fun k _=>[(1,vi 0),(2,vi (askL b j).1),(3,vi (askL b j).2),(4,vi 0),(5,vi 0),(6,vi j),(7,.map (some r)),(8,vi (askW ((Zbm b j).take k)).2),(25,vi b.pts.length),(26,vi j),(31,.slice Aw (Zae b).length cw),(32,vi (Zae b).length),(33,vi k)])
   (fun _ _=>[(1,[vi b.op,vi b.sl,.slice Ap b.pts.length cp,.slice Ac b.cks.length cc]),(5,[vi b.op,vi b.sl,.slice Ap b.pts.length cp,.slice Ac b.cks.length cc,.slice Aw (Zae b).length cw])])
   () ⟨Zai hr,Hp.ins_same _ _ _⟩ ⟨rfl,rfl,rfl,rfl,rfl,rfl,rfl,rfl,rfl,rfl,rfl,rfl,rfl,trivial⟩ ⟨rfl,rfl,trivial⟩ ?_
  rintro k _ H3 hk ⟨hi3,hr3⟩
  refine wkT ?_
  refine wiT (fun h2=>?_) (fun h2=>?_)
  ·have hk':k<(Zae b).length:=by omega
   have hx:=ZcZ val _ (List.getElem_mem hk')
   have hkl:k<(Zbm b j).length:=by rw[Zbm,List.length_map];exact hk'
   have hgk:(Zbm b j)[k]=(Zas b (Zae b)[k]).get j:=by simp[Zbm]
   have htk:(Zbm b j).take (k+1)=(Zbm b j).take k++[(Zas b (Zae b)[k]).get j]:=by rw[List.take_succ_eq_append_getElem hkl,hgk]
   have hst:=ZiV ((Zbm b j).take k) ((Zas b (Zae b)[k]).get j)
   rw[<-htk]at hst
   obtain⟨q1,q2,q3⟩:=askW_le ((Zbm b j).take k)
   have q4:((Zbm b j).take k).length<=1782:=by
    rw[List.length_take]
    have:(Zbm b j).length=(Zae b).length:=by rw[Zbm,List.length_map]
    omega
   refine wkT ?_
   refine ZaE ((hw.inc hi2).inc hi3) rfl rfl rfl (i:=k) hk' fun a ha=>?_
   refine wkT ?_
   refine Zao (hs _) rfl ha rfl ?_
   refine wkT ?_
   refine Zab (vs:=[.agg #[vi b.op,vi b.sl,.slice Ap b.pts.length cp,.slice Ac b.cks.length cc],ZaH (Zae b)[k]]) rfl (Zdk (((hb0.inc hi1).inc hi2).inc hi3) val.good.bk (Zdo hx) (hs _)) ?_
   rintro v _ ⟨rfl,rfl⟩
   generalize (Zae b)[k]=x at *
   refine wkT ?_
   refine Zde (und u119) (tif t3) (agf a3) rfl rfl (i:=j) hj4 (v:=vi ((Zas b x).get j)) (by have:=ZcH (Zas b x) hj4;rw[Nat.zero_add]at this;simpa[N4.cells]using this) ?_
   generalize (Zas b x).get j=gv at *
   have qg:=q1 gv
   generalize hmm:(askW ((Zbm b j).take k))=st at *
   obtain⟨m,wo⟩:=st
   simp only at qg q2 q3 hr3
   refine wkT ?_
   refine Zd6 (α:=Int) (m:=m) (kv:=vi) (und u162) (Zmv (und ui3)) (tif t3) rfl rfl hr3 (hs _) ?_
   refine wkT ?_
   refine Zl5 (α:=Int) (kv:=vi) (und u162) (Zmv (und ui3)) rfl rfl rfl hr3 (hs _) ?_
   refine wkT ?_
   refine Zd6 (α:=Int) (kv:=vi) (und u162) (Zmv (und ui3)) (tif t3) rfl rfl (Hp.ins_same _ _ _) (hs _) ?_
   refine wkT ?_
   refine om_max rfl rfl ?_
   refine wkT ?_
   refine⟨(⟨k+1,by omega⟩,()),slt (by omega),⟨Za6 hi3 hr,by rw[hst];exact Hp.ins_same _ _ _⟩,⟨rfl,rfl,rfl,rfl,rfl,rfl,rfl,?_,rfl,rfl,rfl,rfl,rfl,trivial⟩,⟨rfl,rfl,trivial⟩,rfl⟩
   rw[hst];rfl
  ·have:k=(Zae b).length:=by omega
   subst this
   have htl:(Zbm b j).take (Zae b).length=Zbm b j:=List.take_of_length_le (by rw[Zbm,List.length_map];exact Nat.le_refl _)
   rw[htl]
   have has:=ZmU b j
   refine wkT ?_
   refine wiT (fun h3=>?_) (fun h3=>?_)
   ·rw[if_pos h3]at has
    exact qLuF0
   ·rw[if_neg h3]at has
    exact qLuF0
 ·have:j=b.pts.length:=by omega
  subst this
  refine wkT ?_
  exact⟨hi1.trans hi2,by rw[if_pos hz,if_pos hz,hz];rfl⟩
end
end Go.Proofs
end
