/- proofs about Leango given: part Re1; made by a program out of the longer texts in wip -/
import Derived.Test.YtamdhefhhdgjbaaGreatDoorRe00
set_option linter.all false
section
open Go Go.LL
namespace Go.Proofs
theorem take_all {α:Type}{p:α->Prop}{l:List α}{j:Nat}(hj:j<l.length)(h:∀ x∈l.take j,p x)(h2:p l[j]):∀ x∈l.take (j+1),p x:=by
 intro x hx
 rw[List.take_succ_eq_append_getElem hj]at hx
 rcases List.mem_append.1 hx with hx | hx
 ·exact h x hx
 ·rw[List.mem_singleton.1 hx];exact h2
theorem ne_no {p q:Prop}[Decidable p][Decidable q](h:p↔q):(decide p != decide q)=false:=by
 by_cases hq:q
 ·have hp:=h.2 hq
  simp[hp,hq]
 ·have hp:¬ p:=fun e=>hq (h.1 e)
  simp[hp,hq]
section
variable  {P:Prg}[Tz P][Loud P]{H:Hp}
set_option maxHeartbeats 4000000
set_option maxRecDepth 20000
theorem Has_ok {lv:Value}{l:List Int}{n:Int}(hl:SlAt H lv l)(hln:l.length<=1000000):LL.Zag P 50 #[lv,vi n] H fun v H'=>H=H'∧v=vb (decide (n∈l)):=by
 have hs:∀ g,P.still g=false:=Loud.loud
 refine IsN.m (isn c50) (args:=[lv,vi n]) rfl ?_
 unfold n50
 refine wkT ?_
 refine ZaX l.length (fun j H'=>H=H'∧∀ x∈l.take j,x≠n) (fun j=>[(0,lv),(1,vi n),(5,vi j)]) (fun _=>[]) ⟨rfl,by simp⟩ ⟨rfl,rfl,rfl,trivial⟩ trivial ?_
 rintro j _ hj ⟨rfl,hI⟩
 refine wkT ?_
 refine Zav hl rfl ?_
 refine wkT ?_
 refine wiT (fun h1=>?_) (fun h1=>?_)
 ·have hj':j<l.length:=by omega
  refine wkT ?_
  refine ZaE hl rfl rfl rfl (i:=j) hj' fun a ha=>?_
  refine wkT ?_
  refine Zaf (hs _) rfl ha ?_
  refine wkT ?_
  refine wiT (fun h2=>?_) (fun h2=>?_)
  ·refine wkT ?_
   exact⟨rfl,by rw[decide_eq_true (show n∈l by rw[<-h2];exact List.getElem_mem hj')];rfl⟩
  ·refine wkT ?_
   exact Waq (I:=fun j H'=>H=H'∧∀ x∈l.take j,x≠n) (env:=fun j=>[(0,lv),(1,vi n),(5,vi j)]) (box:=fun _=>[]) hj' ⟨rfl,take_all hj' hI h2⟩ ⟨rfl,rfl,rfl,trivial⟩ trivial rfl
 ·have:j=l.length:=by omega
  subst this
  rw[List.take_length]at hI
  refine wkT ?_
  exact⟨rfl,by rw[decide_eq_false (show ¬ n∈l from fun h=>hI n h rfl)];rfl⟩
theorem ptEq_iff {p q:SPt}:ptEq p q=true↔p=q:=by
 cases p;cases q;simp[ptEq]
theorem ckEq_iff {p q:SCk}:ckEq p q=true↔p=q:=by
 cases p;cases q;simp[ckEq]
theorem Was {α:Type}{l m:List α}{j:Nat}(h1:j<l.length)(h2:j<m.length)(h:l.take j=m.take j)(e:l[j]=m[j]):l.take (j+1)=m.take (j+1):=by
 rw[List.take_succ_eq_append_getElem h1,List.take_succ_eq_append_getElem h2,h,e]
theorem Same_ok {av bv:Value}{a b:Bk}(ha:BkAt H av a)(hb:BkAt H bv b)(hl:a.pts.length<=1000000)(hl2:a.cks.length<=1000000):LL.Zag P 43 #[av,bv] H fun v H'=>H=H'∧(a=b->v=vb true)∧(v=vb true->a=b)∧∃ x,v=vb x:=by
 have hs:∀ g,P.still g=false:=Loud.loud
 obtain⟨pa,ca,rfl,hpa,hca⟩:=ha
 obtain⟨pb,cb,rfl,hpb,hcb⟩:=hb
 obtain⟨Ap,cp,rfl,_⟩:=id hpa
 obtain⟨Ac,cc,rfl,_⟩:=id hca
 obtain⟨Bp,dp,rfl,_⟩:=id hpb
 obtain⟨Bc,dc,rfl,_⟩:=id hcb
 refine IsN.m (isn c43) (args:=[.agg #[vi a.op,vi a.sl,.slice Ap a.pts.length cp,.slice Ac a.cks.length cc],.agg #[vi b.op,vi b.sl,.slice Bp b.pts.length dp,.slice Bc b.cks.length dc]]) rfl ?_
 unfold n43
 have no:a≠b->(a=b->vb false=vb true)∧(vb false=vb true->a=b)∧∃ x,vb false=vb x:=fun h=>⟨fun e=>absurd e h,fun e=>by simp at e,false,rfl⟩
 refine wkT ?_
 refine wiT (fun h1=>?_) (fun h1=>?_)
 ·refine wkT ?_
  exact⟨rfl,no fun e=>h1 (by rw[e])⟩
 refine wkT ?_
 refine wiT (fun h2=>?_) (fun h2=>?_)
 ·refine wkT ?_
  exact⟨rfl,no fun e=>h2 (by rw[e])⟩
 refine wkT ?_
 refine wiT (fun h3=>?_) (fun h3=>?_)
 ·refine wkT ?_
  exact⟨rfl,no fun e=>h3 (by rw[e])⟩
 refine wkT ?_
 refine wiT (fun h4=>?_) (fun h4=>?_)
 ·refine wkT ?_
  exact⟨rfl,no fun e=>h4 (by rw[e])⟩
 have hp:a.pts.length=b.pts.length:=by omega
 have hc:a.cks.length=b.cks.length:=by omega
 refine wkT ?_
 refine ZaX a.pts.length (fun j H'=>H=H'∧a.pts.take j=b.pts.take j) (fun j=>[(2,vi 0),(3,vi 0),(5,vi j)]) (fun _=>[(2,[vi a.op,vi a.sl,.slice Ap a.pts.length cp,.slice Ac a.cks.length cc]),(3,[vi b.op,vi b.sl,.slice Bp b.pts.length dp,.slice Bc b.cks.length dc])]) ⟨rfl,rfl⟩ ⟨rfl,rfl,rfl,trivial⟩ ⟨rfl,rfl,trivial⟩ ?_
 rintro j _ hj ⟨rfl,hI⟩
 refine wkT ?_
 refine wiT (fun h5=>?_) (fun h5=>?_)
 ·have hj':j<a.pts.length:=by omega
  refine wkT ?_
  refine ZaE hpa rfl rfl rfl (i:=j) hj' fun p hp=>?_
  refine wkT ?_
  refine Zao (hs _) rfl hp rfl ?_
  refine wkT ?_
  refine ZaE hpb rfl rfl rfl (i:=j) (by omega) fun q hq=>?_
  refine wkT ?_
  refine Zao (hs _) rfl hq rfl ?_
  refine wkT ?_
  refine Zl8 (b:=ptEq a.pts[j] b.pts[j]) (xs:=#[vi a.pts[j].ml,vi a.pts[j].mh,vi a.pts[j].bl,vi a.pts[j].bh,vi a.pts[j].w]) (ys:=#[vi b.pts[j].ml,vi b.pts[j].mh,vi b.pts[j].bl,vi b.pts[j].bh,vi b.pts[j].w]) g59 (fun Q g H hq=>eq59 Q hq) rfl rfl ?_
  refine wkT ?_
  refine wiT (fun h6=>?_) (fun h6=>?_)
  ·refine wkT ?_
   refine⟨rfl,no ?_⟩
   rintro rfl
   exact h6 ⟨rfl,rfl,rfl,rfl,rfl⟩
  ·have e:=ptEq_iff.1 (decide_eq_true h6)
   refine wkT ?_
   exact⟨⟨j+1,by omega⟩,Nat.sub_lt_sub_left (by omega) (Nat.lt_succ_self j),⟨rfl,Was hj' (by omega) hI e⟩,⟨rfl,rfl,rfl,trivial⟩,⟨rfl,rfl,trivial⟩,rfl⟩
 have:j=a.pts.length:=by omega
 subst this
 rw[List.take_length,List.take_of_length_le (by omega)]at hI
 refine wkT ?_
 refine ZaX a.cks.length (fun j H'=>H=H'∧a.cks.take j=b.cks.take j) (fun j=>[(2,vi 0),(3,vi 0),(6,vi j)]) (fun _=>[(2,[vi a.op,vi a.sl,.slice Ap a.pts.length cp,.slice Ac a.cks.length cc]),(3,[vi b.op,vi b.sl,.slice Bp b.pts.length dp,.slice Bc b.cks.length dc])]) ⟨rfl,rfl⟩ ⟨rfl,rfl,rfl,trivial⟩ ⟨rfl,rfl,trivial⟩ ?_
 rintro j _ hj ⟨rfl,hI2⟩
 refine wkT ?_
 refine wiT (fun h7=>?_) (fun h7=>?_)
 ·have hj':j<a.cks.length:=by omega
  refine wkT ?_
  refine ZaE hca rfl rfl rfl (i:=j) hj' fun p hp=>?_
  refine wkT ?_
  refine Zao (hs _) rfl hp rfl ?_
  refine wkT ?_
  refine ZaE hcb rfl rfl rfl (i:=j) (by omega) fun q hq=>?_
  refine wkT ?_
  refine Zao (hs _) rfl hq rfl ?_
  refine wkT ?_
  refine Zl8 (b:=ckEq a.cks[j] b.cks[j]) (xs:=#[vi a.cks[j].p,vi a.cks[j].gl,vi a.cks[j].gh]) (ys:=#[vi b.cks[j].p,vi b.cks[j].gl,vi b.cks[j].gh]) g51 (fun Q g H hq=>eq51 Q hq) rfl rfl ?_
  refine wkT ?_
  refine wiT (fun h8=>?_) (fun h8=>?_)
  ·refine wkT ?_
   refine⟨rfl,no ?_⟩
   rintro rfl
   exact h8 ⟨rfl,rfl,rfl⟩
  ·have e:=ckEq_iff.1 (decide_eq_true h8)
   refine wkT ?_
   exact⟨⟨j+1,by omega⟩,Nat.sub_lt_sub_left (by omega) (Nat.lt_succ_self j),⟨rfl,Was hj' (by omega) hI2 e⟩,⟨rfl,rfl,rfl,trivial⟩,⟨rfl,rfl,trivial⟩,rfl⟩
 have:j=a.cks.length:=by omega
 subst this
 rw[List.take_length,List.take_of_length_le (by omega)]at hI2
 refine wkT ?_
 refine⟨rfl,fun _=>rfl,fun _=>?_,true,rfl⟩
 obtain⟨a1,a2,a3,a4⟩:=a
 obtain⟨b1,b2,b3,b4⟩:=b
 simp only at h1 h2 hI hI2
 subst h1 h2 hI hI2
 rfl
theorem WaC {av bv:Value}{a b:Bk}(ha:BkAt H av a)(hb:BkAt H bv b)(hl:a.pts.length<=1000000)(hl2:a.cks.length<=1000000)(e:a=b):LL.Zag P 43 #[av,bv] H fun v H'=>H=H'∧v=vb true:=
 LL.Zag.mono (Same_ok ha hb hl hl2) fun _ _ h=>⟨h.1,h.2.1 e⟩
end
end Go.Proofs
end
section
open Go Go.LL
namespace Go.Proofs
def nB (b:Bk):Nat:=(Zae b).length
def oS (b:Bk):Int:=if 0<nB b then 0 else 9
theorem oS_open {b:Bk}(v:Zeo b):Zah b true=oS b:=open_eq v
theorem WaO {b:Bk}(h:0<nB b):oS b=0:=if_pos h
theorem WaN {b:Bk}(h:¬ 0<nB b):oS b=9:=if_neg h
theorem oS_iff {b:Bk}:oS b=0↔0<nB b:=by
 unfold oS
 split
 ·simp[*]
 ·simp[*]
theorem WaL {b:Bk}(h:¬ 0<nB b):Zae b=[]:=List.length_eq_zero_iff.1 (by unfold nB at h;omega)
theorem WaA {b:Bk}(h:¬ 0<nB b)(i:Nat):gapL b i=[]:=List.eq_nil_iff_forall_not_mem.2 fun z hz=>by
 obtain⟨x,hx,_⟩:=WaI.1 hz
 rw[WaL h]at hx;simp at hx
theorem gapL_le {b:Bk}(v:Zeo b)(i:Nat):(gapL b i).length<=1782:=by
 rw[gap_eq rfl]
 have h1:=ordF_len ((Zae b).map fun x=>(Zas b x).get i)
 rw[List.length_map]at h1
 have h3:=Zbp v
 omega
section
variable  {P:Prg}[Tz P][Loud P]{H:Hp}{bv:Value}{b:Bk}
theorem WaV (v:Zeo b)(hb:BkAt H bv b)(hg:Za8 H):LL.Zag P 19 #[bv] H fun u H'=>Inc H H'∧u=.tuple #[vi (nB b),vi 0]:=
 LL.Zag.mono (ZfC hb hg (by have:=v.n;omega) (by have:=v.ckn;omega)) fun u H' h=>⟨h.1,by rw[h.2,Wao v];rfl⟩
theorem Gap_v {i:Nat}(hi:i<b.pts.length)(v:Zeo b)(hb:BkAt H bv b)(hg:Za8 H):LL.Zag P 29 #[bv,vi i] H fun u H'=>Inc H H'∧∃ A c,u=.tuple #[.slice A (gapL b i).length c,vi (oS b)]∧SlAt H' (.slice A (gapL b i).length c) (gapL b i):=
 LL.Zag.mono (Gap_ok hb hg (by have:=v.n;omega) (by have:=v.ckn;omega)) fun u H' h=>⟨h.1,by
  rw[there_eq hi,oS_open v]at h
  obtain⟨w,bb,rfl,o⟩:=h.2
  have:(if oS b=0 then gapL b (i:Int).toNat else [])=gapL b i:=by
   split
   ·rfl
   ·rename_i h0
    rw[WaA fun e=>h0 (WaO e)]
  rw[this]at o
  obtain⟨A,c,rfl⟩:=own_len o
  exact⟨A,c,rfl,o.sl⟩⟩
end
end Go.Proofs
end
section
open Go Go.LL
namespace Go.Proofs
theorem tmod_rg {a m:Int}(h:0<=a)(hm:0<m):0<=a.tmod m∧a.tmod m<m:=⟨Int.tmod_nonneg _ h,Int.tmod_lt_of_pos _ hm⟩
theorem WaQ {b:Bk}(h:fitB b=true):Zeo b:=by
 simp only[fitB,Bool.and_eq_true,decide_eq_true_eq]at h
 exact ZaS h.2
section
variable  {P:Prg}[Tz P][Loud P]{H:Hp}
set_option maxHeartbeats 16000000
set_option maxRecDepth 40000
end
end Go.Proofs
end
section
open Go Go.LL
namespace Go.Proofs
theorem bkS_form {H:Hp}{v:Value}{s:Int}{b:Bk}(h:BkS H v s b):∃ Ap p cp Ac c cc x y,v=.tuple #[.agg #[vi x,vi y,.slice Ap p cp,.slice Ac c cc],vi s]∧BkAt H (.agg #[vi x,vi y,.slice Ap p cp,.slice Ac c cc]) (if s=0 then b else bk0):=by
 obtain⟨w,rfl,h⟩:=h
 obtain⟨pv,cv,rfl,hp,hc⟩:=id h
 obtain⟨Ap,cp,rfl,_⟩:=id hp
 obtain⟨Ac,cc,rfl,_⟩:=id hc
 exact⟨_,_,_,_,_,_,_,_,rfl,h⟩
section
variable  {P:Prg}[Tz P][Loud P]{H:Hp}
set_option maxHeartbeats 16000000
set_option maxRecDepth 40000
end
end Go.Proofs
end
section
open Go Go.LL
namespace Go.Proofs
def cntG (b:Bk)(i:Nat)(z:Int):Nat:=((Zae b).filter fun x=>decide ((Zas b x).get i<z)).length
theorem gap_rg {b:Bk}(v:Zeo b){x:Boat}(hx:x∈Zae b){i:Nat}(hi:i<b.pts.length):b.op-(ptAt b i).mh-b.sl<=(Zas b x).get i∧(Zas b x).get i<=b.op-(ptAt b i).ml+b.sl:=by
 have hn:=v.n
 have hsl:=v.sl
 have h1:=((cand_iff v).1 ((WaT v).1 hx).1).1 i hi
 have h2:=boat_sl v hx
 rw[Zas,N4.of_get _ (by omega),if_pos hi,Zk9]
 split<;>omega
theorem WaS {b:Bk}(v:Zeo b){i:Nat}(hi:i<b.pts.length):cntG b i (b.op-(ptAt b i).mh-b.sl-1)=0:=by
 rw[cntG,WaD fun x hx=>?_]
 ·rfl
 ·have:=gap_rg v hx hi
  exact decide_eq_false (by omega)
theorem cntG_all {b:Bk}(v:Zeo b){i:Nat}(hi:i<b.pts.length){z:Int}(hz:b.op-(ptAt b i).ml+b.sl<z):cntG b i z=nB b:=by
 rw[cntG,WaB fun x hx=>?_]
 ·rfl
 ·have:=gap_rg v hx hi
  exact decide_eq_true (by omega)
theorem ck_len {b:Bk}{i:Nat}{z:Int}(v:Zeo b)(v':Zeo (ckBk b ⟨i,z,z⟩)):nB (ckBk b ⟨i,z,z⟩)=((Zae b).filter fun x=>decide ((Zas b x).get i=z)).length:=by
 rw[nB,boats_ck v v']
 congr 1
 exact List.filter_congr fun x _=>ckOk_one
theorem ck_has {b:Bk}{i:Nat}{z:Int}(v:Zeo b)(v':Zeo (ckBk b ⟨i,z,z⟩)):0<nB (ckBk b ⟨i,z,z⟩)↔z∈gapL b i:=by
 rw[ck_len v v',WaI]
 constructor
 ·intro h
  obtain⟨x,hx⟩:=List.exists_mem_of_length_pos h
  obtain⟨h1,h2⟩:=List.mem_filter.1 hx
  exact⟨x,h1,of_decide_eq_true h2⟩
 ·rintro⟨x,hx,e⟩
  exact List.length_pos_of_mem (List.mem_filter.2 ⟨hx,decide_eq_true e⟩)
theorem ck_oS {b:Bk}{c:SCk}(v:Zeo b)(v':Zeo (ckBk b c)):ZkA b c=oS (ckBk b c):=by
 rw[ZkA,if_neg (by simp[Wao v]),ag_eq v']
 rfl
theorem tmod_nat {m:Int}{n:Nat}(h:0<=m)(hn:0<n):∃ i:Nat,i<n∧m.tmod n=i:=by
 have:=tmod_rg (m:=(n:Int)) h (by omega)
 exact⟨(m.tmod n).toNat,by omega,by omega⟩
section
variable  {P:Prg}[Tz P][Loud P]{H:Hp}
set_option maxHeartbeats 16000000
set_option maxRecDepth 40000
theorem Wak (hPP:P=PP){bv:Value}{b:Bk}{m:Int}(hb:BkAt H bv b)(hm:0<=m∧m<256)(hg:Za8 H) :
  n6.m P (MFin P r6 fun v _=>v=vb true) (env0 [bv,.int .u8 m]) H:=by
 have hs:∀ g,P.still g=false:=Loud.loud
 have hb0:=hb
 obtain⟨pv,cv,rfl,hp,hc⟩:=hb
 obtain⟨Ap,cp,rfl,hp'⟩:=id hp
 obtain⟨Ac,cc,rfl,hc'⟩:=id hc
 unfold n6
 refine wkT ?_
 refine Zab (vs:=[.agg #[vi b.op,vi b.sl,.slice Ap b.pts.length cp,.slice Ac b.cks.length cc]]) rfl (Fit_ok hb0) ?_
 rintro v _ ⟨rfl,rfl⟩
 refine wkT ?_
 refine wiT (fun h0=>?_) (fun h0=>?_)
 ·refine wkT ?_
  refine Zab (vs:=[]) rfl (spiled_okP hPP hg) ?_
  rintro v H1 ⟨_,rfl⟩
  refine wkT ?_
  rfl
 refine wkT ?_
 refine wiT (fun h1=>?_) (fun h1=>?_)
 ·refine wkT ?_
  refine Zab (vs:=[]) rfl (spiled_okP hPP hg) ?_
  rintro v H1 ⟨_,rfl⟩
  refine wkT ?_
  rfl
 have val:=WaQ h0
 have hn:=val.n
 have hsl:=val.sl
 have hop:=val.op
 have hN:nB b<=1782:=Zbp val
 have hck:b.cks.length<3:=by omega
 refine wkT ?_
 refine Zb3 (und Tryz.underlying5) (und Tryz.underlying3) rfl ?_
 rw[ZbO (show InR m from ⟨by omega,by omega⟩)]
 refine wkT ?_
 refine om_rem rfl rfl (by omega) ?_
 obtain⟨i,hi,ei⟩:=tmod_nat (n:=b.pts.length) hm.1 (by omega)
 rw[ei]
 refine wkT ?_
 refine Zab (vs:=[.agg #[vi b.op,vi b.sl,.slice Ap b.pts.length cp,.slice Ac b.cks.length cc],vi i]) rfl (Gap_v hi val hb0 hg) ?_
 rintro v H1 ⟨i1,A1,c1,rfl,s1⟩
 refine wkT ?_
 refine Zab (vs:=[.agg #[vi b.op,vi b.sl,.slice Ap b.pts.length cp,.slice Ac b.cks.length cc]]) rfl (WaV val (hb0.inc i1) (CellsAt.inc hg i1)) ?_
 rintro v H2 ⟨j2,rfl⟩
 have i2:=i1.trans j2
 have gl:=gapL_le val i
 refine wbT ?_
 refine ZbZ (ι:=Unit) (fun _ H'=>H2=H') (fun _=>[(2,vi 0),(5,vi i),(6,.slice A1 (gapL b i).length c1),(8,vi (nB b))]) (fun _=>[(2,[vi b.op,vi b.sl,.slice Ap b.pts.length cp,.slice Ac b.cks.length cc])]) ?_ ?_
 ·refine wkT ?_
  refine om_neb rfl rfl ?_
  rw[ne_no (show oS b=0↔(0:Int)<(nB b:Int) by rw[oS_iff];omega)]
  refine wkT ?_
  refine wiT (fun h2=>?_) (fun h2=>?_)
  ·have hz:¬ 0<nB b:=fun e=>h2 (WaO e)
   refine wkT ?_
   refine wiT (fun h3=>?_) (fun h3=>?_)
   ·exact absurd (WaN hz) h3
   refine wkT ?_
   refine wiT (fun h4=>?_) (fun h4=>?_)
   ·exact absurd h4 (by rw[WaA hz];decide)
   refine wkT ?_
   exact⟨(),rfl,⟨rfl,rfl,rfl,rfl,trivial⟩,⟨rfl,trivial⟩,rfl⟩
  ·refine wkT ?_
   exact⟨(),rfl,⟨rfl,rfl,rfl,rfl,trivial⟩,⟨rfl,trivial⟩,rfl⟩
 rintro _ _ rfl
 have row:Enc.enc b.pts[i]=[vi (ptAt b i).ml,vi (ptAt b i).mh,vi (ptAt b i).bl,vi (ptAt b i).bh,vi (ptAt b i).w]:=by
  rw[show b.pts[i]=ptAt b i from (Zbd hi _).symm];rfl
 have rp:=(val.pts i hi)
 rw[show b.pts[i]=ptAt b i from (Zbd hi _).symm]at rp
 refine wkT ?_
 refine ZaE (hp.inc i2) rfl rfl rfl (i:=i) hi fun a ha=>?_
 rw[row]at ha
 refine wkT ?_
 refine Zao (cs:=[vi (ptAt b i).ml,vi (ptAt b i).mh]) (hs _) rfl (by rw[add_zero];exact ZbK (ds:=[vi (ptAt b i).bl,vi (ptAt b i).bh,vi (ptAt b i).w]) ha) rfl ?_
 refine wkT ?_
 obtain⟨L,hL⟩:∃ L,L=b.op-(ptAt b i).mh-b.sl-1:=⟨_,rfl⟩
 obtain⟨K,hK⟩:∃ K:Nat,(K:Int)=(ptAt b i).mh-(ptAt b i).ml+2 * b.sl+3:=⟨((ptAt b i).mh-(ptAt b i).ml+2 * b.sl+3).toNat,by omega⟩
 have c0:cntG b i L=0:=by rw[hL];exact WaS val hi
 have cK:cntG b i (L+K)=nB b:=cntG_all val hi (by omega)
 rw[<-hL]
 refine ZaX K (fun j H'=>Inc H2 H') (fun j=>[(2,vi 0),(5,vi i),(6,.slice A1 (gapL b i).length c1),(8,vi (nB b)),(10,vi (cntG b i (L+j))),(11,vi 0),(12,vi (L+j))]) (fun _=>[(2,[vi b.op,vi b.sl,.slice Ap b.pts.length cp,.slice Ac b.cks.length cc]),(11,[vi (ptAt b i).ml,vi (ptAt b i).mh])]) (.refl _) ⟨rfl,rfl,rfl,rfl,by show some (vi 0)=some (vi (cntG b i (L+(0:Nat))));rw[show L+((0:Nat):Int)=L by omega,c0];rfl,rfl,by show some (vi L)=some (vi (L+(0:Nat)));congr 2;omega,trivial⟩ ⟨rfl,rfl,trivial⟩ ?_
 intro j H3 hj i3
 have hcn:cntG b i (L+j)<=nB b:=List.length_filter_le _ _
 refine wkT ?_
 refine wiT (fun h2=>?_) (fun h2=>?_)
 ·have hjK:j<K:=by omega
  have hz:-199<=L+j∧L+j<=199:=by omega
  have vc:=valid_ck (c:=⟨i,L+j,L+j⟩) val hck ⟨by show (0:Int)<=i;omega,by show (i:Int)<_;omega⟩ ⟨by show -199<=L+(j:Int);omega,Int.le_refl _,by show L+(j:Int)<=199;omega⟩
  have hlen:=ck_len val vc
  have hhas:=ck_has val vc
  have hstep:cntG b i (L+((j+1:Nat):Int))=cntG b i (L+j)+nB (ckBk b ⟨i,L+j,L+j⟩):=by
   rw[hlen,show L+((j+1:Nat):Int)=L+j+1 by omega]
   exact cnt_step _ _ _
  have hcn2:cntG b i (L+((j+1:Nat):Int))<=nB b:=List.length_filter_le _ _
  have e12:vi (L+j+1)=vi (L+((j+1:Nat):Int)):=by congr 1;omega
  have hos:=ck_oS val vc
  have ii:=i2.trans i3
  refine wkT ?_
  refine Zab (vs:=[vi (L+j)]) rfl (ZeE _) ?_
  rintro v _ ⟨rfl,rfl⟩
  refine wkT ?_
  refine Zab (vs:=[.agg #[vi b.op,vi b.sl,.slice Ap b.pts.length cp,.slice Ac b.cks.length cc],.agg #[vi i,vi (L+j),vi (L+j)]]) rfl (Check_ok (c:=⟨i,L+j,L+j⟩) (hb0.inc ii) (CellsAt.inc hg ii) (by omega) (by omega)) ?_
  rintro v H4 ⟨i4,hbk⟩
  rw[hos]at hbk
  obtain⟨Bp,np,dp,Bc,nc,dc,x1,x2,rfl,hbq⟩:=bkS_form hbk
  clear hbk
  refine wkT ?_
  refine Zab (vs:=[.slice A1 (gapL b i).length c1,vi (L+j)]) rfl (Has_ok ((s1.inc j2).inc (i3.trans i4)) (by omega)) ?_
  rintro v _ ⟨rfl,rfl⟩
  refine wkT ?_
  refine om_neb rfl rfl ?_
  rw[ne_no (show oS (ckBk b ⟨i,L+j,L+j⟩)=0↔L+j∈gapL b i by rw[oS_iff,hhas])]
  by_cases hpos:0<nB (ckBk b ⟨i,L+j,L+j⟩)
  ·rw[WaO hpos]at hbq ⊢
   rw[if_pos rfl]at hbq
   have i5:=i3.trans i4
   refine wkT ?_
   refine Zab (vs:=[.agg #[vi x1,vi x2,.slice Bp np dp,.slice Bc nc dc]]) rfl (WaV vc hbq (CellsAt.inc hg (i2.trans i5))) ?_
   rintro v H5 ⟨j5,rfl⟩
   refine wkT ?_
   refine wiT (fun h3=>?_) (fun h3=>?_)
   ·exact absurd h3 (by omega)
   refine wkT ?_
   refine Zab (vs:=[.agg #[vi b.op,vi b.sl,.slice Ap b.pts.length cp,.slice Ac b.cks.length cc],.agg #[vi i,vi (L+j),vi (L+j)]]) rfl (Zhl (c:=⟨i,L+j,L+j⟩) (hb0.inc ((i2.trans i5).trans j5)) (by omega)) ?_
   rintro v H6 ⟨j6,hb6⟩
   refine kp_l hs ?_
   refine wkT ?_
   refine Zab (vs:=[.agg #[vi x1,vi x2,.slice Bp np dp,.slice Bc nc dc],v]) rfl (WaC ((hbq.inc j5).inc j6) hb6 (by show b.pts.length<=_;omega) (by show (b.cks++[_]).length<=_;rw[List.length_append,List.length_singleton];omega) rfl) ?_
   rintro v _ ⟨rfl,rfl⟩
   refine wkT ?_
   exact Waq (I:=fun j H'=>Inc H2 H') (env:=fun j=>[(2,vi 0),(5,vi i),(6,.slice A1 (gapL b i).length c1),(8,vi (nB b)),(10,vi (cntG b i (L+j))),(11,vi 0),(12,vi (L+j))]) (box:=fun _=>[(2,[vi b.op,vi b.sl,.slice Ap b.pts.length cp,.slice Ac b.cks.length cc]),(11,[vi (ptAt b i).ml,vi (ptAt b i).mh])]) hjK ((i5.trans j5).trans j6) ⟨rfl,rfl,rfl,rfl,by rw[hstep];rfl,rfl,by rw[<-e12];rfl,trivial⟩ ⟨rfl,rfl,trivial⟩ rfl
  ·rw[WaN hpos]at hbq ⊢
   rw[if_neg (by decide)]at hbq
   have e0:cntG b i (L+((j+1:Nat):Int))=cntG b i (L+j):=by omega
   refine wkT ?_
   refine Zab (vs:=[.agg #[vi x1,vi x2,.slice Bp np dp,.slice Bc nc dc],bookV0]) rfl (WaC hbq (bk0_at _) (by show (0:Nat)<=_;omega) (by show (0:Nat)<=_;omega) rfl) ?_
   rintro v _ ⟨rfl,rfl⟩
   refine wkT ?_
   exact Waq (I:=fun j H'=>Inc H2 H') (env:=fun j=>[(2,vi 0),(5,vi i),(6,.slice A1 (gapL b i).length c1),(8,vi (nB b)),(10,vi (cntG b i (L+j))),(11,vi 0),(12,vi (L+j))]) (box:=fun _=>[(2,[vi b.op,vi b.sl,.slice Ap b.pts.length cp,.slice Ac b.cks.length cc]),(11,[vi (ptAt b i).ml,vi (ptAt b i).mh])]) hjK (i3.trans i4) ⟨rfl,rfl,rfl,rfl,by rw[e0];rfl,rfl,by rw[<-e12];rfl,trivial⟩ ⟨rfl,rfl,trivial⟩ rfl
 have:j=K:=by omega
 subst this
 refine wkT ?_
 rw[cK,decide_eq_true (show (nB b:Int)=nB b from rfl)]
 refine wkT ?_
 refine Zab (vs:=[]) rfl (spiled_okP hPP (CellsAt.inc hg (i2.trans i3))) ?_
 rintro v H9 ⟨_,rfl⟩
 refine wkT ?_
 rfl
end
end Go.Proofs
end
section
open Go Go.LL Go.Conc Go.ConcM
namespace Go.Proofs.YtamdhefhhdgjbaaGreatDoor
open Go.ChangeShapes Go.WideShapes Go.ChangeAt Go.RowKit
set_option maxRecDepth 100000 in
theorem Wab (os:Os)(started:os.Started)(H:Type)(enc:TypeId×Value->H)(F:Stop.Interp) :
  ReturnsInLeavingWide { calm:=true } Tryz.checked os 6 .any (fun w args=>(Rows.spileReachedSpec.pre enc Tryz.prog Tryz.f6 [] false w args∧laidMetH Tryz.prog [("ribband/spile.checks",Rows.laid_ribband_spile_checks)] w)∧sizedMet enc Tryz.prog Tryz.f6 (OpenSpec.ofChange Rows.spileReachedSpec) false w args)
   ((OpenSpec.ofChange Rows.spileReachedSpec).postWith enc Tryz.prog Tryz.f6 F (outsideKept [.timePasses]) false true false):=by
 refine law_lifted os started F rfl Tryz.func6 Tryz.results6 (by kernel_rfl) (by kernel_rfl) ?_ ?_ ?_ #[.agg #[.int .i64 0,.int .i64 0,.slice none 0 0,.slice none 0 0],.int .u8 0] (by kernel_rfl) (by kernel_rfl) (by kernel_rfl)
 ·intro ds hl
  rw[Tryz.params6]at hl
  match ds,hl with
  | [d0,d1],_=>rfl
 ·have h:(Tryz.f6.params.toList.all fun t=>Tryz.prog.readableRec t && decide (t<Tryz.prog.types.size))=true:=by kernel_rfl
  intro t ht
  simpa using List.all_eq_true.1 h t ht
 ·intro W base args ds p hval hA hg
  rw[Tryz.params6]at hA hval
  obtain⟨v0,w0,d0,e0,p0,q0,ha,rfl,rfl,h0,r0⟩:=trodAll_cons hA
  obtain⟨v1,w1,d1,e1,p1,q1,rfl,rfl,rfl,h1,r1⟩:=trodAll_cons r0
  obtain⟨rfl,rfl,rfl⟩:=trodAll_nil r1
  obtain rfl:args=#[v0,v1]:=by cases args;simp_all
  obtain⟨b0,k0⟩:=bk_open (hval 0 25 v0 rfl rfl) h0
  obtain⟨n1,rfl,k1a,k1b⟩:=u8_open (hval 1 5 v1 rfl rfl) h1
  exact reach_top (args:=[v0,.int .u8 n1]) (isn c6) Tryz.func6 Tryz.results6 rfl (Wak rfl k0 ⟨k1a,k1b⟩ hg)
theorem spileReached_holds:Rows.SpileReachedSaid:=
 OpenClaim.holds_of_wide_leaving_time 6 Tryz.f6 rfl rfl rfl rfl rfl rfl rfl ⟨rfl,rfl,rfl,rfl,rfl⟩ rfl rfl rfl rfl rfl Waj Tryz.func6 Wai Wah Wag
  (fun os started H enc _ F=>Wab os started H enc F)
theorem spileReached_card:Rows.SpileReachedCardSaid:=
 ZmC .later [.funcs] true (true,"7d20c1c653d3570dc0b3adced23199ecfee38ebbf859018ae9f3ecca83f03cb8") false
  spileReached_holds (by kernel_rfl) spileReached_row_tie rfl ⟨rfl,rfl⟩ (by kernel_rfl) rfl
  (fun f fn hf hfn=>by
   obtain rfl:f=6:=Option.some.inj (Waj.symm.trans hf) |>.symm
   obtain rfl:fn=Tryz.f6:=(Option.some.inj (Tryz.func6.symm.trans hfn)).symm
   exact⟨by kernel_rfl,fun j t ht=>by
    have hall:(Tryz.f6.params.all fun u=>!Tryz.prog.wantsStandIn u)=true:=by kernel_rfl
    have hm:=Array.mem_of_getElem? ht
    exact(show Tryz.prog.wantsStandIn t=false by simpa using (Array.all_eq_true_iff_forall_mem.1 hall) t hm)⟩)
  (by kernel_rfl)
end Go.Proofs.YtamdhefhhdgjbaaGreatDoor
end
