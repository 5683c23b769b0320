/- proofs about Leango given: part Sl2; made by a program out of the longer texts in wip -/
import Derived.Test.YtamdhefhhdgjbaaGreatDoorSl01
set_option linter.all false
section
open Go Go.LL
namespace Go.Proofs
theorem take_all {α:Type}{p:α->Prop}{l:List α}{j:Nat}(hj:j<l.length)(h:∀ x∈l.take j,p x)(h2:p l[j]):∀ x∈l.take (j+1),p x:=by
 intro x hx
 rw[List.take_succ_eq_append_getElem hj]at hx
 rcases List.mem_append.1 hx with hx | hx
 ·exact h x hx
 ·rw[List.mem_singleton.1 hx];exact h2
theorem ne_no {p q:Prop}[Decidable p][Decidable q](h:p↔q):(decide p != decide q)=false:=by
 by_cases hq:q
 ·have hp:=h.2 hq
  simp[hp,hq]
 ·have hp:¬ p:=fun e=>hq (h.1 e)
  simp[hp,hq]
section
variable  {P:Prg}[Tz P][Loud P]{H:Hp}
set_option maxHeartbeats 4000000
set_option maxRecDepth 20000
theorem Wav {pv cv:Value}{b:Bk}{k:Int}(hp:SlAt H pv b.pts)(hc:SlAt H cv b.cks):LL.Zag P 52 #[.agg #[vi b.op,vi b.sl,pv,cv],vi k] H fun v H'=>H=H'∧v=.agg #[vi b.op,vi k,pv,cv]:=by
 have hs:∀ g,P.still g=false:=Loud.loud
 obtain⟨Ap,cp,rfl,hp'⟩:=id hp
 obtain⟨Ac,cc,rfl,hc'⟩:=id hc
 refine IsN.m (isn c52) (args:=[.agg #[vi b.op,vi b.sl,.slice Ap b.pts.length cp,.slice Ac b.cks.length cc],vi k]) rfl ?_
 unfold n52
 refine wkT ?_
 exact⟨rfl,rfl⟩
theorem Wbn {lv:Value}{l:List Slip}{k:Slip}(hl:SlAt H lv l)(hln:l.length<=1000000):LL.Zag P 55 #[lv,ZbG k] H fun v H'=>H=H'∧∃ x,v=vb x∧(x=true↔k∈l):=by
 have hs:∀ g,P.still g=false:=Loud.loud
 refine IsN.m (isn c55) (args:=[lv,ZbG k]) rfl ?_
 unfold n55
 refine wkT ?_
 refine ZaX l.length (fun j H'=>H=H'∧∀ x∈l.take j,x≠k) (fun j=>[(0,lv),(3,vi 0),(5,vi j)]) (fun _=>[(3,[vi k.bf,vi k.by_])]) ⟨rfl,by simp⟩ ⟨rfl,rfl,rfl,trivial⟩ ⟨rfl,trivial⟩ ?_
 rintro j _ hj ⟨rfl,hI⟩
 refine wkT ?_
 refine Zav hl rfl ?_
 refine wkT ?_
 refine wiT (fun h1=>?_) (fun h1=>?_)
 ·have hj':j<l.length:=by omega
  refine wkT ?_
  refine ZaE hl rfl rfl rfl (i:=j) hj' fun a ha=>?_
  refine wkT ?_
  refine Zao (hs _) rfl ha rfl ?_
  refine wkT ?_
  refine om_eqS (b:=decide (l[j].bf=k.bf∧l[j].by_=k.by_)) (xs:=#[vi l[j].bf,vi l[j].by_]) (ys:=#[vi k.bf,vi k.by_]) g70 (fun Q g H hq=>eqP (.inl s70) Q hq) rfl rfl ?_
  refine wkT ?_
  have hk:l[j]=k↔l[j].bf=k.bf∧l[j].by_=k.by_:=by
   cases l[j];cases k;simp
  refine wiT (fun h2=>?_) (fun h2=>?_)
  ·refine wkT ?_
   exact⟨rfl,true,rfl,fun _=>by rw[<-hk.2 h2];exact List.getElem_mem hj',fun _=>rfl⟩
  ·refine wkT ?_
   exact for_next (I:=fun j H'=>H=H'∧∀ x∈l.take j,x≠k) (env:=fun j=>[(0,lv),(3,vi 0),(5,vi j)]) (box:=fun _=>[(3,[vi k.bf,vi k.by_])]) hj' ⟨rfl,take_all hj' hI fun e=>h2 (hk.1 e)⟩ ⟨rfl,rfl,rfl,trivial⟩ ⟨rfl,trivial⟩ rfl
 ·have:j=l.length:=by omega
  subst this
  rw[List.take_length]at hI
  refine wkT ?_
  exact⟨rfl,false,rfl,fun h=>by simp at h,fun h=>absurd rfl (hI k h)⟩
theorem ptEq_iff {p q:SPt}:ptEq p q=true↔p=q:=by
 cases p;cases q;simp[ptEq]
theorem ckEq_iff {p q:SCk}:ckEq p q=true↔p=q:=by
 cases p;cases q;simp[ckEq]
theorem WaT {α:Type}{l m:List α}{j:Nat}(h1:j<l.length)(h2:j<m.length)(h:l.take j=m.take j)(e:l[j]=m[j]):l.take (j+1)=m.take (j+1):=by
 rw[List.take_succ_eq_append_getElem h1,List.take_succ_eq_append_getElem h2,h,e]
theorem Same_ok {av bv:Value}{a b:Bk}(ha:BkAt H av a)(hb:BkAt H bv b)(hl:a.pts.length<=1000000)(hl2:a.cks.length<=1000000):LL.Zag P 43 #[av,bv] H fun v H'=>H=H'∧(a=b->v=vb true)∧(v=vb true->a=b)∧∃ x,v=vb x:=by
 have hs:∀ g,P.still g=false:=Loud.loud
 obtain⟨pa,ca,rfl,hpa,hca⟩:=ha
 obtain⟨pb,cb,rfl,hpb,hcb⟩:=hb
 obtain⟨Ap,cp,rfl,_⟩:=id hpa
 obtain⟨Ac,cc,rfl,_⟩:=id hca
 obtain⟨Bp,dp,rfl,_⟩:=id hpb
 obtain⟨Bc,dc,rfl,_⟩:=id hcb
 refine IsN.m (isn c43) (args:=[.agg #[vi a.op,vi a.sl,.slice Ap a.pts.length cp,.slice Ac a.cks.length cc],.agg #[vi b.op,vi b.sl,.slice Bp b.pts.length dp,.slice Bc b.cks.length dc]]) rfl ?_
 unfold n43
 have no:a≠b->(a=b->vb false=vb true)∧(vb false=vb true->a=b)∧∃ x,vb false=vb x:=fun h=>⟨fun e=>absurd e h,fun e=>by simp at e,false,rfl⟩
 refine wkT ?_
 refine wiT (fun h1=>?_) (fun h1=>?_)
 ·refine wkT ?_
  exact⟨rfl,no fun e=>h1 (by rw[e])⟩
 refine wkT ?_
 refine wiT (fun h2=>?_) (fun h2=>?_)
 ·refine wkT ?_
  exact⟨rfl,no fun e=>h2 (by rw[e])⟩
 refine wkT ?_
 refine wiT (fun h3=>?_) (fun h3=>?_)
 ·refine wkT ?_
  exact⟨rfl,no fun e=>h3 (by rw[e])⟩
 refine wkT ?_
 refine wiT (fun h4=>?_) (fun h4=>?_)
 ·refine wkT ?_
  exact⟨rfl,no fun e=>h4 (by rw[e])⟩
 have hp:a.pts.length=b.pts.length:=by omega
 have hc:a.cks.length=b.cks.length:=by omega
 refine wkT ?_
 refine ZaX a.pts.length (fun j H'=>H=H'∧a.pts.take j=b.pts.take j) (fun j=>[(2,vi 0),(3,vi 0),(5,vi j)]) (fun _=>[(2,[vi a.op,vi a.sl,.slice Ap a.pts.length cp,.slice Ac a.cks.length cc]),(3,[vi b.op,vi b.sl,.slice Bp b.pts.length dp,.slice Bc b.cks.length dc])]) ⟨rfl,rfl⟩ ⟨rfl,rfl,rfl,trivial⟩ ⟨rfl,rfl,trivial⟩ ?_
 rintro j _ hj ⟨rfl,hI⟩
 refine wkT ?_
 refine wiT (fun h5=>?_) (fun h5=>?_)
 ·have hj':j<a.pts.length:=by omega
  refine wkT ?_
  refine ZaE hpa rfl rfl rfl (i:=j) hj' fun p hp=>?_
  refine wkT ?_
  refine Zao (hs _) rfl hp rfl ?_
  refine wkT ?_
  refine ZaE hpb rfl rfl rfl (i:=j) (by omega) fun q hq=>?_
  refine wkT ?_
  refine Zao (hs _) rfl hq rfl ?_
  refine wkT ?_
  refine Zl8 (b:=ptEq a.pts[j] b.pts[j]) (xs:=#[vi a.pts[j].ml,vi a.pts[j].mh,vi a.pts[j].bl,vi a.pts[j].bh,vi a.pts[j].w]) (ys:=#[vi b.pts[j].ml,vi b.pts[j].mh,vi b.pts[j].bl,vi b.pts[j].bh,vi b.pts[j].w]) g59 (fun Q g H hq=>eq59 Q hq) rfl rfl ?_
  refine wkT ?_
  refine wiT (fun h6=>?_) (fun h6=>?_)
  ·refine wkT ?_
   refine⟨rfl,no ?_⟩
   rintro rfl
   exact h6 ⟨rfl,rfl,rfl,rfl,rfl⟩
  ·have e:=ptEq_iff.1 (decide_eq_true h6)
   refine wkT ?_
   exact⟨⟨j+1,by omega⟩,Nat.sub_lt_sub_left (by omega) (Nat.lt_succ_self j),⟨rfl,WaT hj' (by omega) hI e⟩,⟨rfl,rfl,rfl,trivial⟩,⟨rfl,rfl,trivial⟩,rfl⟩
 have:j=a.pts.length:=by omega
 subst this
 rw[List.take_length,List.take_of_length_le (by omega)]at hI
 refine wkT ?_
 refine ZaX a.cks.length (fun j H'=>H=H'∧a.cks.take j=b.cks.take j) (fun j=>[(2,vi 0),(3,vi 0),(6,vi j)]) (fun _=>[(2,[vi a.op,vi a.sl,.slice Ap a.pts.length cp,.slice Ac a.cks.length cc]),(3,[vi b.op,vi b.sl,.slice Bp b.pts.length dp,.slice Bc b.cks.length dc])]) ⟨rfl,rfl⟩ ⟨rfl,rfl,rfl,trivial⟩ ⟨rfl,rfl,trivial⟩ ?_
 rintro j _ hj ⟨rfl,hI2⟩
 refine wkT ?_
 refine wiT (fun h7=>?_) (fun h7=>?_)
 ·have hj':j<a.cks.length:=by omega
  refine wkT ?_
  refine ZaE hca rfl rfl rfl (i:=j) hj' fun p hp=>?_
  refine wkT ?_
  refine Zao (hs _) rfl hp rfl ?_
  refine wkT ?_
  refine ZaE hcb rfl rfl rfl (i:=j) (by omega) fun q hq=>?_
  refine wkT ?_
  refine Zao (hs _) rfl hq rfl ?_
  refine wkT ?_
  refine Zl8 (b:=ckEq a.cks[j] b.cks[j]) (xs:=#[vi a.cks[j].p,vi a.cks[j].gl,vi a.cks[j].gh]) (ys:=#[vi b.cks[j].p,vi b.cks[j].gl,vi b.cks[j].gh]) g51 (fun Q g H hq=>eq51 Q hq) rfl rfl ?_
  refine wkT ?_
  refine wiT (fun h8=>?_) (fun h8=>?_)
  ·refine wkT ?_
   refine⟨rfl,no ?_⟩
   rintro rfl
   exact h8 ⟨rfl,rfl,rfl⟩
  ·have e:=ckEq_iff.1 (decide_eq_true h8)
   refine wkT ?_
   exact⟨⟨j+1,by omega⟩,Nat.sub_lt_sub_left (by omega) (Nat.lt_succ_self j),⟨rfl,WaT hj' (by omega) hI2 e⟩,⟨rfl,rfl,rfl,trivial⟩,⟨rfl,rfl,trivial⟩,rfl⟩
 have:j=a.cks.length:=by omega
 subst this
 rw[List.take_length,List.take_of_length_le (by omega)]at hI2
 refine wkT ?_
 refine⟨rfl,fun _=>rfl,fun _=>?_,true,rfl⟩
 obtain⟨a1,a2,a3,a4⟩:=a
 obtain⟨b1,b2,b3,b4⟩:=b
 simp only at h1 h2 hI hI2
 subst h1 h2 hI hI2
 rfl
theorem WbE {av bv:Value}{a b:Bk}(ha:BkAt H av a)(hb:BkAt H bv b)(hl:a.pts.length<=1000000)(hl2:a.cks.length<=1000000)(e:a=b):LL.Zag P 43 #[av,bv] H fun v H'=>H=H'∧v=vb true:=
 LL.Zag.mono (Same_ok ha hb hl hl2) fun _ _ h=>⟨h.1,h.2.1 e⟩
end
end Go.Proofs
end
section
open Go Go.LL
namespace Go.Proofs
def nB (b:Bk):Nat:=(Zae b).length
def oS (b:Bk):Int:=if 0<nB b then 0 else 9
theorem Wa7 {b:Bk}(v:Zeo b):Zah b true=oS b:=open_eq v
theorem WaZ {b:Bk}(h:0<nB b):oS b=0:=if_pos h
theorem Wa6 {b:Bk}(h:¬ 0<nB b):oS b=9:=if_neg h
theorem Wby {b:Bk}:oS b=0↔0<nB b:=by
 unfold oS
 split
 ·simp[*]
 ·simp[*]
theorem WaG {b:Bk}(h:¬ 0<nB b):Zae b=[]:=List.length_eq_zero_iff.1 (by unfold nB at h;omega)
theorem Wap {b:Bk}(v:Zeo b)(h:¬ 0<nB b):Waa b=[]:=(WaD v).2 fun x hx=>by rw[WaG h]at hx;simp at hx
theorem WaB {b:Bk}(v:Zeo b)(h:¬ 0<nB b):whenL b=[]:=(WaS v).2 fun x hx=>by rw[WaG h]at hx;simp at hx
theorem Wbs {b:Bk}(v:Zeo b):(Waa b).length<=22:=by
 have h1:=List.length_filter_le (fun k=>(Zae b).any (slEq k)) ((ZaC b).drop 1)
 have h2:=ZfM v
 rw[List.length_drop]at h1
 rw[Waa];omega
theorem whenL_le {b:Bk}(v:Zeo b):(whenL b).length<=1782:=by
 rw[Wbr v]
 have h1:=Wbc (((Zae b).filter byN).map Boat.bf)
 rw[List.length_map]at h1
 have h2:=List.length_filter_le byN (Zae b)
 have h3:=Zbp v
 omega
def slpF (b:Bk):Int:=if 0<nB b then Zhu ((Zae b).filter byN).length (nB b) else 0
section
variable  {P:Prg}[Tz P][Loud P]{H:Hp}{bv:Value}{b:Bk}
theorem WbF (v:Zeo b)(hb:BkAt H bv b)(hg:Za8 H):LL.Zag P 19 #[bv] H fun u H'=>Inc H H'∧u=.tuple #[vi (nB b),vi 0]:=
 LL.Zag.mono (ZfC hb hg (by have:=v.n;omega) (by have:=v.ckn;omega)) fun u H' h=>⟨h.1,by rw[h.2,WaO v];rfl⟩
theorem WbD (v:Zeo b)(hb:BkAt H bv b)(hg:Za8 H):LL.Zag P 21 #[bv] H fun u H'=>Inc H H'∧u=.tuple #[vi (slpF b),vi (oS b)]:=
 LL.Zag.mono (Zhi hb hg (by have:=v.n;omega) (by have:=v.ckn;omega)) fun u H' h=>⟨h.1,by
  rw[h.2,Wa7 v,Wax v]
  have:(if oS b=0 then Zhu ((Zae b).filter byN).length (Zae b).length else 0)=slpF b:=by
   unfold slpF
   by_cases h0:0<nB b
   ·rw[if_pos (WaZ h0),if_pos h0];rfl
   ·rw[if_neg (by rw[Wa6 h0];decide),if_neg h0]
  rw[this]⟩
theorem Slips_v (v:Zeo b)(hb:BkAt H bv b)(hg:Za8 H):LL.Zag P 26 #[bv] H fun u H'=>Inc H H'∧∃ A c,u=.tuple #[.slice A (Waa b).length c,vi (oS b)]∧SlAt H' (.slice A (Waa b).length c) (Waa b):=
 LL.Zag.mono (ZkF hb hg (by have:=v.n;omega) (by have:=v.ckn;omega)) fun u H' h=>⟨h.1,by
  rw[Wa7 v]at h
  rcases h.2 with ⟨hz,rfl⟩ | ⟨hz,w,bb,rfl,o⟩
  ·have h0:¬ 0<nB b:=fun e=>hz (WaZ e)
   rw[Wap v h0]
   exact⟨none,0,rfl,.nil _⟩
  ·rw[WaP v]at o
   obtain⟨A,c,rfl⟩:=Wbw o
   rw[hz]
   exact⟨A,c,rfl,o.sl⟩⟩
theorem When_v (v:Zeo b)(hb:BkAt H bv b)(hg:Za8 H):LL.Zag P 23 #[bv] H fun u H'=>Inc H H'∧∃ A c,u=.tuple #[.slice A (whenL b).length c,vi (oS b)]∧SlAt H' (.slice A (whenL b).length c) (whenL b):=
 LL.Zag.mono (When_ok hb hg (by have:=v.n;omega) (by have:=v.ckn;omega)) fun u H' h=>⟨h.1,by
  rw[Wa7 v]at h
  obtain⟨w,bb,rfl,o⟩:=h.2
  have:(if oS b=0 then whenL b else [])=whenL b:=by
   split
   ·rfl
   ·rename_i h0
    rw[WaB v fun e=>h0 (WaZ e)]
  rw[this]at o
  obtain⟨A,c,rfl⟩:=Wbw o
  exact⟨A,c,rfl,o.sl⟩⟩
end
end Go.Proofs
end
section
open Go Go.LL
namespace Go.Proofs
theorem WbA {b:Bk}(h:fitB b=true):Zeo b:=by
 simp only[fitB,Bool.and_eq_true,decide_eq_true_eq]at h
 exact ZaS h.2
section
variable  {P:Prg}[Tz P][Loud P]{H:Hp}
set_option maxHeartbeats 16000000
set_option maxRecDepth 40000
end
end Go.Proofs
end
section
open Go Go.LL
namespace Go.Proofs
theorem fm_oS {b:Bk}(v:Zeo b):Zhc b 0=oS (fmBk b 0):=by
 have v0:=v.sl
 rw[Zhc,if_neg (by simp[WaO v]),if_neg (by omega),ag_eq (Wal v ⟨by omega,v0.1⟩)]
 rfl
theorem bkS_form {H:Hp}{v:Value}{s:Int}{b:Bk}(h:BkS H v s b):∃ Ap p cp Ac c cc x y,v=.tuple #[.agg #[vi x,vi y,.slice Ap p cp,.slice Ac c cc],vi s]∧BkAt H (.agg #[vi x,vi y,.slice Ap p cp,.slice Ac c cc]) (if s=0 then b else bk0):=by
 obtain⟨w,rfl,h⟩:=h
 obtain⟨pv,cv,rfl,hp,hc⟩:=id h
 obtain⟨Ap,cp,rfl,_⟩:=id hp
 obtain⟨Ac,cc,rfl,_⟩:=id hc
 exact⟨_,_,_,_,_,_,_,_,rfl,h⟩
theorem mp_snoc {l:List Slip}{j:Nat}(h:j<l.length):(l.take (j+1)).map Slip.bf=(l.take j).map Slip.bf++[l[j].bf]:=by
 rw[List.take_succ_eq_append_getElem h,List.map_append];rfl
section
variable  {P:Prg}[Tz P][Loud P]{H:Hp}
set_option maxHeartbeats 16000000
set_option maxRecDepth 40000
theorem WaN (hPP:P=PP){bv:Value}{b:Bk}(hb:BkAt H bv b)(hg:Za8 H) :
  n7.m P (MFin P r7 fun v _=>v=vb true) (env0 [bv]) H:=by
 have hs:∀ g,P.still g=false:=Loud.loud
 have hb0:=hb
 obtain⟨pv,cv,rfl,hp,hc⟩:=hb
 obtain⟨Ap,cp,rfl,hp'⟩:=id hp
 obtain⟨Ac,cc,rfl,hc'⟩:=id hc
 unfold n7
 refine wkT ?_
 refine Zab (vs:=[.agg #[vi b.op,vi b.sl,.slice Ap b.pts.length cp,.slice Ac b.cks.length cc]]) rfl (Fit_ok hb0) ?_
 rintro v _ ⟨rfl,rfl⟩
 refine wkT ?_
 refine wiT (fun h0=>?_) (fun h0=>?_)
 ·refine wkT ?_
  refine Zab (vs:=[]) rfl (spiled_okP hPP hg) ?_
  rintro v H1 ⟨_,rfl⟩
  refine wkT ?_
  rfl
 have val:=WbA h0
 have hn:=val.n
 have hsl:=val.sl
 have v0:=Wal (k:=0) val ⟨by omega,hsl.1⟩
 have hM:((Zae b).filter byN).length+nB (fmBk b 0)=nB b:=firm_sum val
 have hA:nB (fmBk b 0)=nB b↔∀ x∈Zae b,x.by_=0:=firm_all val
 have hN:nB b<=1782:=Zbp val
 refine wkT ?_
 refine Zab (vs:=[.agg #[vi b.op,vi b.sl,.slice Ap b.pts.length cp,.slice Ac b.cks.length cc]]) rfl (WbF val hb0 hg) ?_
 rintro v H1 ⟨i1,rfl⟩
 refine wkT ?_
 refine Zab (vs:=[.agg #[vi b.op,vi b.sl,.slice Ap b.pts.length cp,.slice Ac b.cks.length cc],vi 0]) rfl (Wav (hp.inc i1) (hc.inc i1)) ?_
 rintro v _ ⟨rfl,rfl⟩
 have hF:BkAt H1 (.agg #[vi b.op,vi 0,.slice Ap b.pts.length cp,.slice Ac b.cks.length cc]) (fmBk b 0):=⟨_,_,rfl,hp.inc i1,hc.inc i1⟩
 refine wkT ?_
 refine Zab (vs:=[.agg #[vi b.op,vi 0,.slice Ap b.pts.length cp,.slice Ac b.cks.length cc]]) rfl (WbF v0 hF (CellsAt.inc hg i1)) ?_
 rintro v H2 ⟨j2,rfl⟩
 have i2:=i1.trans j2
 refine wkT ?_
 refine Zab (vs:=[.agg #[vi b.op,vi b.sl,.slice Ap b.pts.length cp,.slice Ac b.cks.length cc],vi 0]) rfl (Firm_ok (n:=0) (hb0.inc i2) (CellsAt.inc hg i2) (by omega) (by have:=val.ckn;omega)) ?_
 rintro v H3 ⟨j3,hbk⟩
 rw[fm_oS val]at hbk
 obtain⟨Bp,np,dp,Bc,nc,dc,x1,x2,rfl,hbq⟩:=bkS_form hbk
 clear hbk
 have i3:=i2.trans j3
 refine wkT ?_
 refine Zab (vs:=[.agg #[vi b.op,vi b.sl,.slice Ap b.pts.length cp,.slice Ac b.cks.length cc]]) rfl (WbD val (hb0.inc i3) (CellsAt.inc hg i3)) ?_
 rintro v H4 ⟨j4,rfl⟩
 have i4:=i3.trans j4
 refine wkT ?_
 refine Zab (vs:=[.agg #[vi b.op,vi b.sl,.slice Ap b.pts.length cp,.slice Ac b.cks.length cc]]) rfl (When_v val (hb0.inc i4) (CellsAt.inc hg i4)) ?_
 rintro v H5 ⟨j5,A5,c5,rfl,s5⟩
 have i5:=i4.trans j5
 refine wkT ?_
 refine Zab (vs:=[.agg #[vi b.op,vi b.sl,.slice Ap b.pts.length cp,.slice Ac b.cks.length cc]]) rfl (Slips_v val (hb0.inc i5) (CellsAt.inc hg i5)) ?_
 rintro v H6 ⟨j6,A6,c6,rfl,s6⟩
 have i6:=i5.trans j6
 have hM1:nB (fmBk b 0)<=nB b:=by omega
 refine wkT ?_
 refine Zab (vs:=[vi (nB (fmBk b 0)),vi 0,vi (nB b)]) rfl (Zm6 _ _ _) ?_
 rintro v _ ⟨rfl,rfl⟩
 rw[decide_eq_true (show (0:Int)<=(nB (fmBk b 0):Int)∧(nB (fmBk b 0):Int)<=nB b from ⟨by omega,by omega⟩)]
 refine wkT ?_
 refine Wbd rfl rfl ?_
 rw[ne_no (show oS (fmBk b 0)=0↔(0:Int)<(nB (fmBk b 0):Int) by rw[Wby];omega)]
 refine wkT ?_
 refine wiT (fun h1=>?_) (fun h1=>?_)
 ·exact absurd rfl h1
 refine wkT ?_
 refine wiT (fun h1=>?_) (fun h1=>?_)
 ·exact absurd rfl h1
 refine wkT ?_
 refine Wbd rfl rfl ?_
 rw[ne_no (show oS b=0↔(0:Int)<(nB b:Int) by rw[Wby];omega)]
 refine wbT ?_
 refine ZbZ (ι:=Unit) (fun _ H'=>H6=H') (fun _=>[(1,vi 0),(3,vi (nB b)),(5,vi (nB (fmBk b 0))),(9,vi (slpF b)),(10,vi (oS b)),(11,.slice A5 (whenL b).length c5),(13,.slice A6 (Waa b).length c6)]) (fun _=>[(1,[vi b.op,vi b.sl,.slice Ap b.pts.length cp,.slice Ac b.cks.length cc])]) ?_ ?_
 ·refine wkT ?_
  refine wiT (fun h2=>?_) (fun h2=>?_)
  ·rw[if_pos h2]at hbq
   refine wkT ?_
   refine Zab (vs:=[.agg #[vi b.op,vi b.sl,.slice Ap b.pts.length cp,.slice Ac b.cks.length cc],vi 0]) rfl (Wav (hp.inc i6) (hc.inc i6)) ?_
   rintro v _ ⟨rfl,rfl⟩
   have hF6:BkAt H6 (.agg #[vi b.op,vi 0,.slice Ap b.pts.length cp,.slice Ac b.cks.length cc]) (fmBk b 0):=⟨_,_,rfl,hp.inc i6,hc.inc i6⟩
   refine wkT ?_
   refine Zab (vs:=[_,_]) rfl (WbE (hbq.inc ((j4.trans j5).trans j6)) hF6 (by show b.pts.length<=_;omega) (by show b.cks.length<=_;have:=val.ckn;omega) rfl) ?_
   rintro v _ ⟨rfl,rfl⟩
   refine wkT ?_
   refine wiT (fun h3=>?_) (fun h3=>?_)
   ·exact absurd h3 (by simp[h2])
   ·refine wkT ?_
    exact⟨(),rfl,⟨rfl,rfl,rfl,rfl,rfl,rfl,rfl,trivial⟩,⟨rfl,trivial⟩,rfl⟩
  ·refine wkT ?_
   have h9:oS (fmBk b 0)=9:=Wa6 fun e=>h2 (WaZ e)
   refine wiT (fun h3=>?_) (fun h3=>?_)
   ·refine wkT ?_
    refine wiT (fun h4=>?_) (fun h4=>?_)
    ·exact absurd h9 h4
    ·refine wkT ?_
     exact⟨(),rfl,⟨rfl,rfl,rfl,rfl,rfl,rfl,rfl,trivial⟩,⟨rfl,trivial⟩,rfl⟩
   ·exact absurd h3 (by simp[h2])
 rintro _ _ rfl
 have hg6:=CellsAt.inc hg i6
 refine wkT ?_
 refine wiT (fun h2=>?_) (fun h2=>?_)
 ·have hz:¬ 0<nB b:=fun e=>h2 (WaZ e)
  rw[Wap val hz,WaB val hz,Wa6 hz]
  simp only[List.length_nil]
  refine wkT ?_
  refine Zab (vs:=[]) rfl (spiled_okP hPP hg6) ?_
  rintro v H7 ⟨_,rfl⟩
  refine wkT ?_
  rfl
 have hz:0<nB b:=Wby.1 h2
 refine wkT ?_
 have e0:(nB b:Int)-(nB (fmBk b 0):Int)=(((Zae b).filter byN).length:Nat):=by omega
 rw[e0]
 refine Zab (vs:=[vi ((Zae b).filter byN).length,vi (nB b)]) rfl (Told_ok _ _) ?_
 rintro v _ ⟨rfl,rfl⟩
 have e1:slpF b=Zhu ((Zae b).filter byN).length (nB b):=if_pos hz
 rw[e1]
 have f1:((Waa b).length:Int)=0↔(nB (fmBk b 0):Int)=(nB b:Int):=by
  rw[show (((Waa b).length:Int)=0↔Waa b=[]) from ⟨fun h=>List.length_eq_zero_iff.1 (by omega),fun h=>by rw[h];rfl⟩,WaD val,<-hA]
  omega
 have f2:((whenL b).length:Int)=0↔(nB (fmBk b 0):Int)=(nB b:Int):=by
  rw[show (((whenL b).length:Int)=0↔whenL b=[]) from ⟨fun h=>List.length_eq_zero_iff.1 (by omega),fun h=>by rw[h];rfl⟩,WaS val,<-hA]
  omega
 have l6:=Wbs val
 have l5:=whenL_le val
 refine wkT ?_
 refine wiT (fun h3=>?_) (fun h3=>?_)
 ·exact absurd rfl h3
 refine wkT ?_
 refine Wbd rfl rfl ?_
 rw[ne_no f1]
 refine wkT ?_
 refine Wbd rfl rfl ?_
 rw[ne_no f2]
 refine wkT ?_
 refine wiT (fun h4=>?_) (fun h4=>?_)
 ·exact absurd h4 (by omega)
 refine wkT ?_
 refine ZaP (α:=Value×Option Nat) (Waa b).length (fun j s H'=>Inc H6 H'∧Own H6 H' 3 s.1 (((Waa b).take j).map Slip.bf) s.2)
  (fun j s=>[(1,vi 0),(11,.slice A5 (whenL b).length c5),(13,.slice A6 (Waa b).length c6),(15,s.1),(16,vi j)]) (fun _ _=>[(1,[vi b.op,vi b.sl,.slice Ap b.pts.length cp,.slice Ac b.cks.length cc])]) (.slice none 0 0,none) ⟨.refl _,.nil _ _ _⟩ ⟨rfl,rfl,rfl,rfl,rfl,trivial⟩ ⟨rfl,trivial⟩ ?_
 rintro j ⟨v15,b15⟩ H7 hj ⟨i7,o7⟩
 simp only at o7
 refine wkT ?_
 refine wiT (fun h5=>?_) (fun h5=>?_)
 ·have hj':j<(Waa b).length:=by omega
  have hmem:(Waa b)[j]∈(ZaC b).drop 1:=(List.mem_filter.1 (List.getElem_mem hj')).1
  have hlt:∀ t,t<j->(ht:t<(Waa b).length)->slLt (Waa b)[t] (Waa b)[j]:=fun t htj ht=>List.pairwise_iff_getElem.1 (WaY b) t j ht hj' htj
  have hsnoc:=mp_snoc hj'
  refine wbT ?_
  refine Zbn ?_
  refine wbT ?_
  refine ZbZ (ι:=Hp) (fun G H'=>G=H'∧Inc H7 G) (fun _=>[(1,vi 0),(11,.slice A5 (whenL b).length c5),(13,.slice A6 (Waa b).length c6),(15,v15),(16,vi j)]) (fun _=>[(1,[vi b.op,vi b.sl,.slice Ap b.pts.length cp,.slice Ac b.cks.length cc])]) ?_ ?_
  ·refine wkT ?_
   refine ZaE (s6.inc i7) rfl rfl rfl (i:=j) hj' fun a ha=>?_
   refine wkT ?_
   refine Zao (hs _) rfl ha rfl ?_
   refine wkT ?_
   refine Zab (vs:=[.agg #[vi b.op,vi b.sl,.slice Ap b.pts.length cp,.slice Ac b.cks.length cc]]) rfl (Wbp (hb0.inc (i6.trans i7)) hsl.1 (by omega) (by omega) (by omega)) ?_
   rintro w H8 ⟨i8,bb,o8⟩
   have ll:((ZaC b).drop 1).length<=1000000:=by have:=ZfM val;rw[List.length_drop];omega
   refine kp_lt hs i8 ?_
   refine wkT ?_
   refine Zab (vs:=[w,ZbG (Waa b)[j]]) rfl (Wbn o8.sl ll) ?_
   rintro v _ ⟨rfl,x,rfl,hx⟩
   obtain rfl:x=true:=hx.2 hmem
   have s8:=s6.inc (i7.trans i8)
   refine wkT ?_
   refine wiT (fun h6=>?_) (fun h6=>?_)
   ·obtain⟨t,rfl⟩:∃ t,j=t+1:=⟨j-1,by omega⟩
    have hl1:=hlt t (by omega) (by omega)
    have et:((t+1:Nat):Int)-1=(t:Int):=by omega
    refine wkT ?_
    refine ZaE s8 rfl rfl rfl (i:=t+1) hj' fun a1 ha1=>?_
    refine wkT ?_
    refine Zaf (hs _) rfl (ZbA (j:=0) ha1 rfl) ?_
    refine wkT ?_
    rw[et]
    refine ZaE s8 rfl rfl rfl (i:=t) (by omega) fun a2 ha2=>?_
    refine wkT ?_
    refine Zaf (hs _) rfl (ZbA (j:=0) ha2 rfl) ?_
    refine wkT ?_
    unfold slLt at hl1
    refine wiT (fun h7=>?_) (fun h7=>?_)
    ·exact absurd h7 (by omega)
    refine wkT ?_
    refine ZaE s8 rfl rfl rfl (i:=t+1) hj' fun a1 ha1=>?_
    refine wkT ?_
    refine Zaf (hs _) rfl (ZbA (j:=0) ha1 rfl) ?_
    refine wkT ?_
    rw[et]
    refine ZaE s8 rfl rfl rfl (i:=t) (by omega) fun a2 ha2=>?_
    refine wkT ?_
    refine Zaf (hs _) rfl (ZbA (j:=0) ha2 rfl) ?_
    refine wkT ?_
    refine wiT (fun h8=>?_) (fun h8=>?_)
    ·refine wkT ?_
     refine ZaE s8 rfl rfl rfl (i:=t+1) hj' fun a1 ha1=>?_
     refine wkT ?_
     refine Zaf (hs _) rfl (ZbA (j:=1) ha1 rfl) ?_
     refine wkT ?_
     rw[et]
     refine ZaE s8 rfl rfl rfl (i:=t) (by omega) fun a2 ha2=>?_
     refine wkT ?_
     refine Zaf (hs _) rfl (ZbA (j:=1) ha2 rfl) ?_
     refine wkT ?_
     refine wiT (fun h9=>?_) (fun h9=>?_)
     ·exact absurd h9 (by omega)
     refine wkT ?_
     exact⟨H8,⟨rfl,i8⟩,⟨rfl,rfl,rfl,rfl,rfl,trivial⟩,⟨rfl,trivial⟩,rfl⟩
    ·refine wkT ?_
     exact⟨H8,⟨rfl,i8⟩,⟨rfl,rfl,rfl,rfl,rfl,trivial⟩,⟨rfl,trivial⟩,rfl⟩
   ·refine wkT ?_
    exact⟨H8,⟨rfl,i8⟩,⟨rfl,rfl,rfl,rfl,rfl,trivial⟩,⟨rfl,trivial⟩,rfl⟩
  ·rintro H8 _ ⟨rfl,i8⟩
   have s8:=s6.inc (i7.trans i8)
   refine wkT ?_
   refine ZaE s8 rfl rfl rfl (i:=j) hj' fun a1 ha1=>?_
   refine wkT ?_
   refine Zaf (hs _) rfl (ZbA (j:=0) ha1 rfl) ?_
   refine wkT ?_
   refine Zat (cs:=[vi (Waa b)[j].bf]) (hs _) rfl fun r5 hr5=>?_
   refine wkT ?_
   refine ZbW (l':=[(Waa b)[j].bf]) (und u34) (und u34) (tif t3) rfl (by decide) ((i7.trans i8).trans (Zaj hr5)) ((o7.inc i8).ins hr5) ints_1 rfl (by simp only[List.length_singleton,List.length_map,List.length_take];omega) (by omega) rfl rfl (hs _) fun v7 H9 b7 k1 k2 k3=>?_
   rw[<-hsnoc]at k2
   refine wkT ?_
   exact⟨(⟨j+1,by omega⟩,(v7,b7)),Nat.sub_lt_sub_left (by omega) (Nat.lt_succ_self j),⟨k1,k2⟩,⟨rfl,rfl,rfl,rfl,rfl,trivial⟩,⟨rfl,trivial⟩,rfl⟩
 have:j=(Waa b).length:=by omega
 subst this
 rw[List.take_length]at o7
 refine wkT ?_
 refine Zab (vs:=[v15]) rfl (Wbq o7.sl (by rw[List.length_map];omega)) ?_
 rintro v H8 ⟨i8,b8,o8⟩
 rw[Wbk val]at o8
 refine wkT ?_
 refine Zab (vs:=[v,.slice A5 (whenL b).length c5]) rfl (Waw o8.sl (s5.inc ((j6.trans i7).trans i8)) (by omega)) ?_
 rintro v _ ⟨rfl,rfl⟩
 refine wkT ?_
 refine Zab (vs:=[]) rfl (spiled_okP hPP (CellsAt.inc hg6 (i7.trans i8))) ?_
 rintro v H9 ⟨_,rfl⟩
 refine wkT ?_
 rfl
end
end Go.Proofs
end
section
open Go Go.LL Go.Conc Go.ConcM
namespace Go.Proofs.YtamdhefhhdgjbaaGreatDoor
open Go.ChangeShapes Go.WideShapes Go.ChangeAt Go.RowKit
set_option maxRecDepth 100000 in
theorem Wai (os:Os)(started:os.Started)(H:Type)(enc:TypeId×Value->H)(F:Stop.Interp) :
  ReturnsInLeavingWide { calm:=true } Tryz.checked os 7 .any (fun w args=>(Rows.spileSlipsSpec.pre enc Tryz.prog Tryz.f7 [] false w args∧laidMetH Tryz.prog [("ribband/spile.checks",Rows.laid_ribband_spile_checks)] w)∧sizedMet enc Tryz.prog Tryz.f7 (OpenSpec.ofChange Rows.spileSlipsSpec) false w args)
   ((OpenSpec.ofChange Rows.spileSlipsSpec).postWith enc Tryz.prog Tryz.f7 F (outsideKept [.timePasses]) false true false):=by
 refine law_lifted os started F rfl Tryz.func7 Tryz.results7 (by kernel_rfl) (by kernel_rfl) ?_ ?_ ?_ #[.agg #[.int .i64 0,.int .i64 0,.slice none 0 0,.slice none 0 0]] (by kernel_rfl) (by kernel_rfl) (by kernel_rfl)
 ·intro ds hl
  rw[Tryz.params7]at hl
  match ds,hl with
  | [d0],_=>rfl
 ·have h:(Tryz.f7.params.toList.all fun t=>Tryz.prog.readableRec t && decide (t<Tryz.prog.types.size))=true:=by kernel_rfl
  intro t ht
  simpa using List.all_eq_true.1 h t ht
 ·intro W base args ds p hval hA hg
  rw[Tryz.params7]at hA hval
  obtain⟨v0,w0,d0,e0,p0,q0,ha,rfl,rfl,h0,r0⟩:=trodAll_cons hA
  obtain⟨rfl,rfl,rfl⟩:=trodAll_nil r0
  obtain rfl:args=#[v0]:=by cases args;simp_all
  obtain⟨b0,k0⟩:=bk_open (hval 0 25 v0 rfl rfl) h0
  exact reach_top (args:=[v0]) (isn c7) Tryz.func7 Tryz.results7 rfl (WaN rfl k0 hg)
theorem spileSlips_holds:Rows.SpileSlipsSaid:=
 OpenClaim.holds_of_wide_leaving_time 7 Tryz.f7 rfl rfl rfl rfl rfl rfl rfl ⟨rfl,rfl,rfl,rfl,rfl⟩ rfl rfl rfl rfl rfl WaM Tryz.func7 WaL WaK WaJ
  (fun os started H enc _ F=>Wai os started H enc F)
theorem spileSlips_card:Rows.SpileSlipsCardSaid:=
 ZmC .later [.funcs] true (true,"7d20c1c653d3570dc0b3adced23199ecfee38ebbf859018ae9f3ecca83f03cb8") false
  spileSlips_holds (by kernel_rfl) spileSlips_row_tie rfl ⟨rfl,rfl⟩ (by kernel_rfl) rfl
  (fun f fn hf hfn=>by
   obtain rfl:f=7:=Option.some.inj (WaM.symm.trans hf) |>.symm
   obtain rfl:fn=Tryz.f7:=(Option.some.inj (Tryz.func7.symm.trans hfn)).symm
   exact⟨by kernel_rfl,fun j t ht=>by
    have hall:(Tryz.f7.params.all fun u=>!Tryz.prog.wantsStandIn u)=true:=by kernel_rfl
    have hm:=Array.mem_of_getElem? ht
    exact(show Tryz.prog.wantsStandIn t=false by simpa using (Array.all_eq_true_iff_forall_mem.1 hall) t hm)⟩)
  (by kernel_rfl)
end Go.Proofs.YtamdhefhhdgjbaaGreatDoor
end
