import Derived.Test.YtamdhefhhdgjbaaGreatDoorN46
import Derived.Test.YtamdhefhhdgjbaaGreatDoorN47
set_option linter.all false
section
open Go Go.LL Go.Conc Go.ConcM
namespace Go.Proofs.YtamdhefhhdgjbaaGreatDoor
theorem Zjf:Tryz.pinned.checked.prog.funcNamed Rows.spileNewsRow.func=some 5:=by kernel_rfl
theorem Zje:joinedFacts Tryz.pinned.checked.prog 5 Tryz.f5 Rows.spileNewsSpec Rows.spileNewsRow=true:=by kernel_rfl
theorem Zjd:Tryz.f5.isInstance Tryz.pinned.checked.prog Rows.spileNewsRow.origin Rows.spileNewsRow.targs:=of_decide_eq_true (by kernel_rfl)
theorem Zjc:Tryz.f5.isWrapper Tryz.pinned.checked.prog Rows.spileNewsRow.wrapper Rows.spileNewsRow.mainSum:=by unfold Func.isWrapper;first | (rw[if_pos (by decide +kernel)];kernel_rfl) | (rw[if_neg (by decide +kernel)];exact⟨rfl,rfl⟩)
end Go.Proofs.YtamdhefhhdgjbaaGreatDoor
end
section
open Go Go.LL
namespace Go.Proofs
theorem ZeA {α:Type}[DecidableEq α]:∀ {l m:List α},l.Nodup->(∀ x∈l,x∈m)->l.length<=m.length
 | [],_,_,_=>Nat.zero_le _
 | a :: l,m,hn,hs=>by
  obtain⟨h1,h2⟩:=List.nodup_cons.1 hn
  have ha:=hs a (List.mem_cons_self ..)
  have:=ZeA (l:=l) (m:=m.erase a) h2 fun x hx=>(List.mem_erase_of_ne (by rintro rfl;exact h1 hx)).2 (hs x (List.mem_cons_of_mem _ hx))
  rw[List.length_erase_of_mem ha]at this
  have:=List.length_pos_of_mem ha
  rw[List.length_cons];omega
end Go.Proofs
end
section
open Go Go.LL
namespace Go.Proofs
end Go.Proofs
end
section
open Go Go.LL
namespace Go.Proofs
theorem ZdQ {b:Bk}:Zbg b=true↔0<(Zae b).length:=by
 rw[Zbg]
 cases Zae b<;>simp
end Go.Proofs
end
section
open Go Go.LL
namespace Go.Proofs
end Go.Proofs
end
section
open Go Go.LL
namespace Go.Proofs
structure Wider (b o:Bk):Prop where
 op:o.op=b.op
 sl:o.sl=b.sl
 cks:o.cks=b.cks
 n:o.pts.length=b.pts.length
 ml:∀ i,i<b.pts.length->(ptAt o i).ml=(ptAt b i).ml∧(ptAt o i).mh=(ptAt b i).mh
 w:∀ i,i<b.pts.length->(ptAt o i).w=(ptAt b i).w
 b:∀ i,i<b.pts.length->(ptAt o i).bl<=(ptAt b i).bl∧(ptAt b i).bh<=(ptAt o i).bh
structure Learn (b o:Bk):Prop where
 op:o.op=b.op
 n:o.pts.length=b.pts.length
 bd:∀ i,i<b.pts.length->(ptAt o i).bl=(ptAt b i).bl∧(ptAt o i).bh=(ptAt b i).bh∧(ptAt o i).w=(ptAt b i).w
 sub:∀ x∈Zae o,x∈Zae b
theorem Learn.pos {b o:Bk}(h:Learn b o)(h0:0<(Zae o).length):0<(Zae b).length:=by
 obtain⟨x,hx⟩:=List.exists_mem_of_length_pos h0
 exact List.length_pos_of_mem (h.sub x hx)
end Go.Proofs
end
section
open Go Go.LL
namespace Go.Proofs
end Go.Proofs
end
section
open Go Go.LL
namespace Go.Proofs
end Go.Proofs
end
section
open Go Go.LL
namespace Go.Proofs
theorem Zmx {l:List Int}{i:Nat}(h:i<l.length):l.getD i 0=l[i]:=ZaG h _
section
variable  {P:Prg}[Tz P][Loud P]{H:Hp}
set_option maxHeartbeats 4000000
set_option maxRecDepth 20000
theorem ZkU {pv cv:Value}{b:Bk}{k:Int}(hp:SlAt H pv b.pts)(hc:SlAt H cv b.cks):LL.Zai P 52 #[.agg #[vi b.op,vi b.sl,pv,cv],vi k] H fun v H'=>H=H'∧v=.agg #[vi b.op,vi k,pv,cv]:=by
 have hs:=Loud.loud (P:=P)
 obtain⟨Ap,cp,rfl,hp'⟩:=id hp
 obtain⟨Ac,cc,rfl,hc'⟩:=id hc
 refine IsN.m (isn c52) (args:=[.agg #[vi b.op,vi b.sl,.slice Ap b.pts.length cp,.slice Ac b.cks.length cc],vi k]) rfl ?_
 unfold n52
 refine wkT ?_
 exact⟨rfl,rfl⟩
theorem Meet_ok (a b c d:Int):LL.Zai P 67 #[.agg #[vi a,vi b],.agg #[vi c,vi d]] H fun v H'=>H=H'∧v=.agg #[vi (max a c),vi (min b d)]:=by
 have hs:=Loud.loud (P:=P)
 refine IsN.m (isn c67) (args:=[.agg #[vi a,vi b],.agg #[vi c,vi d]]) rfl ?_
 unfold n67
 refine wkT ?_
 refine ZjA rfl rfl ?_
 refine wkT ?_
 refine om_min rfl rfl ?_
 refine wkT ?_
 exact⟨rfl,rfl⟩
theorem Zkc {n:Nat}(hn:n<=1000000):LL.Zai P 76 #[vi n] H fun v H'=>Inc H H'∧∃ bb,Own H H' 3 v ((List.range n).map fun (i:Nat)=>(i:Int)) bb:=by
 have hs:=Loud.loud (P:=P)
 refine IsN.m (isn c76) (args:=[vi n]) rfl ?_
 unfold n76
 refine wkT ?_
 refine Zax (α:=Value×Option Nat) n (fun j s H'=>Inc H H'∧Own H H' 3 s.1 ((List.range j).map fun (i:Nat)=>(i:Int)) s.2) (fun j s=>[(0,vi n),(3,s.1),(4,vi j)]) (fun _ _=>[]) (.slice none 0 0,none) ⟨.refl _,.nil _ _ _⟩ ⟨rfl,rfl,rfl,trivial⟩ trivial ?_
 rintro j ⟨v3,b3⟩ H2 hj ⟨i2,o3⟩
 simp only at o3
 refine wkT ?_
 refine wiT (fun h1=>?_) (fun h1=>?_)
 ·refine wkT ?_
  refine Zao (cs:=[vi j]) (hs _) rfl fun r5 hr5=>?_
  refine wkT ?_
  refine ZaR (l':=[(j:Int)]) (und u34) (und u34) (tif t3) rfl (by decide) (i2.trans (Zah hr5)) (o3.ins hr5) ZjP rfl (by simp only[List.length_singleton,List.length_map,List.length_range];omega) (by omega) rfl rfl (hs _) fun v7 H4 b7 k1 k2 k3=>?_
  refine wkT ?_
  exact⟨(⟨j+1,by omega⟩,(v7,b7)),slt (by omega),⟨k1,by rw[List.range_succ,List.map_append];exact k2⟩,⟨rfl,rfl,rfl,trivial⟩,trivial,rfl⟩
 ·have:j=n:=by omega
  subst this
  refine wkT ?_
  exact⟨i2,_,o3⟩
theorem ptEq_iff {p q:SPt}:ptEq p q=true↔p=q:=by
 cases p;cases q;simp[ptEq]
theorem ckEq_iff {p q:SCk}:ckEq p q=true↔p=q:=by
 cases p;cases q;simp[ckEq]
theorem Zjb {α:Type}{l m:List α}{j:Nat}(h1:j<l.length)(h2:j<m.length)(h:l.take j=m.take j)(e:l[j]=m[j]):l.take (j+1)=m.take (j+1):=by
 rw[List.take_succ_eq_append_getElem h1,List.take_succ_eq_append_getElem h2,h,e]
theorem Same_ok {av bv:Value}{a b:Bk}(ha:BkAt H av a)(hb:BkAt H bv b)(hl:a.pts.length<=1000000)(hl2:a.cks.length<=1000000):LL.Zai P 43 #[av,bv] H fun v H'=>H=H'∧(a=b->v=vb true)∧(v=vb true->a=b)∧∃ x,v=vb x:=by
 have hs:=Loud.loud (P:=P)
 obtain⟨pa,ca,rfl,hpa,hca⟩:=ha
 obtain⟨pb,cb,rfl,hpb,hcb⟩:=hb
 obtain⟨Ap,cp,rfl,_⟩:=id hpa
 obtain⟨Ac,cc,rfl,_⟩:=id hca
 obtain⟨Bp,dp,rfl,_⟩:=id hpb
 obtain⟨Bc,dc,rfl,_⟩:=id hcb
 refine IsN.m (isn c43) (args:=[.agg #[vi a.op,vi a.sl,.slice Ap a.pts.length cp,.slice Ac a.cks.length cc],.agg #[vi b.op,vi b.sl,.slice Bp b.pts.length dp,.slice Bc b.cks.length dc]]) rfl ?_
 unfold n43
 have no:a≠b->(a=b->vb false=vb true)∧(vb false=vb true->a=b)∧∃ x,vb false=vb x:=fun h=>⟨fun e=>absurd e h,fun e=>by simp at e,false,rfl⟩
 refine wkT ?_
 refine wiT (fun h1=>?_) (fun h1=>?_)
 ·refine wkT ?_
  exact⟨rfl,no fun e=>h1 (by rw[e])⟩
 refine wkT ?_
 refine wiT (fun h2=>?_) (fun h2=>?_)
 ·refine wkT ?_
  exact⟨rfl,no fun e=>h2 (by rw[e])⟩
 refine wkT ?_
 refine wiT (fun h3=>?_) (fun h3=>?_)
 ·refine wkT ?_
  exact⟨rfl,no fun e=>h3 (by rw[e])⟩
 refine wkT ?_
 refine wiT (fun h4=>?_) (fun h4=>?_)
 ·refine wkT ?_
  exact⟨rfl,no fun e=>h4 (by rw[e])⟩
 have hp:a.pts.length=b.pts.length:=by omega
 have hc:a.cks.length=b.cks.length:=by omega
 refine wkT ?_
 refine ZaP a.pts.length (fun j H'=>H=H'∧a.pts.take j=b.pts.take j) (fun j=>[(2,vi 0),(3,vi 0),(5,vi j)]) (fun _=>[(2,[vi a.op,vi a.sl,.slice Ap a.pts.length cp,.slice Ac a.cks.length cc]),(3,[vi b.op,vi b.sl,.slice Bp b.pts.length dp,.slice Bc b.cks.length dc])]) ⟨rfl,rfl⟩ ⟨rfl,rfl,rfl,trivial⟩ ⟨rfl,rfl,trivial⟩ ?_
 rintro j _ hj ⟨rfl,hI⟩
 refine wkT ?_
 refine wiT (fun h5=>?_) (fun h5=>?_)
 ·have hj':j<a.pts.length:=by omega
  refine wkT ?_
  refine Zar hpa rfl rfl rfl (i:=j) hj' fun p hp=>?_
  refine wkT ?_
  refine Zam (hs _) rfl hp rfl ?_
  refine wkT ?_
  refine Zar hpb rfl rfl rfl (i:=j) (by omega) fun q hq=>?_
  refine wkT ?_
  refine Zam (hs _) rfl hq rfl ?_
  refine wkT ?_
  refine Zjz (b:=ptEq a.pts[j] b.pts[j]) (xs:=#[vi a.pts[j].ml,vi a.pts[j].mh,vi a.pts[j].bl,vi a.pts[j].bh,vi a.pts[j].w]) (ys:=#[vi b.pts[j].ml,vi b.pts[j].mh,vi b.pts[j].bl,vi b.pts[j].bh,vi b.pts[j].w]) g59 (fun Q g H hq=>eq59 Q hq) rfl rfl ?_
  refine wkT ?_
  refine wiT (fun h6=>?_) (fun h6=>?_)
  ·refine wkT ?_
   refine⟨rfl,no ?_⟩
   rintro rfl
   exact h6 ⟨rfl,rfl,rfl,rfl,rfl⟩
  ·have e:=ptEq_iff.1 (decide_eq_true h6)
   refine wkT ?_
   exact⟨⟨j+1,by omega⟩,slt (by omega),⟨rfl,Zjb hj' (by omega) hI e⟩,⟨rfl,rfl,rfl,trivial⟩,⟨rfl,rfl,trivial⟩,rfl⟩
 have:j=a.pts.length:=by omega
 subst this
 rw[List.take_length,List.take_of_length_le (by omega)]at hI
 refine wkT ?_
 refine ZaP a.cks.length (fun j H'=>H=H'∧a.cks.take j=b.cks.take j) (fun j=>[(2,vi 0),(3,vi 0),(6,vi j)]) (fun _=>[(2,[vi a.op,vi a.sl,.slice Ap a.pts.length cp,.slice Ac a.cks.length cc]),(3,[vi b.op,vi b.sl,.slice Bp b.pts.length dp,.slice Bc b.cks.length dc])]) ⟨rfl,rfl⟩ ⟨rfl,rfl,rfl,trivial⟩ ⟨rfl,rfl,trivial⟩ ?_
 rintro j _ hj ⟨rfl,hI2⟩
 refine wkT ?_
 refine wiT (fun h7=>?_) (fun h7=>?_)
 ·have hj':j<a.cks.length:=by omega
  refine wkT ?_
  refine Zar hca rfl rfl rfl (i:=j) hj' fun p hp=>?_
  refine wkT ?_
  refine Zam (hs _) rfl hp rfl ?_
  refine wkT ?_
  refine Zar hcb rfl rfl rfl (i:=j) (by omega) fun q hq=>?_
  refine wkT ?_
  refine Zam (hs _) rfl hq rfl ?_
  refine wkT ?_
  refine Zjz (b:=ckEq a.cks[j] b.cks[j]) (xs:=#[vi a.cks[j].p,vi a.cks[j].gl,vi a.cks[j].gh]) (ys:=#[vi b.cks[j].p,vi b.cks[j].gl,vi b.cks[j].gh]) g51 (fun Q g H hq=>eq51 Q hq) rfl rfl ?_
  refine wkT ?_
  refine wiT (fun h8=>?_) (fun h8=>?_)
  ·refine wkT ?_
   refine⟨rfl,no ?_⟩
   rintro rfl
   exact h8 ⟨rfl,rfl,rfl⟩
  ·have e:=ckEq_iff.1 (decide_eq_true h8)
   refine wkT ?_
   exact⟨⟨j+1,by omega⟩,slt (by omega),⟨rfl,Zjb hj' (by omega) hI2 e⟩,⟨rfl,rfl,rfl,trivial⟩,⟨rfl,rfl,trivial⟩,rfl⟩
 have:j=a.cks.length:=by omega
 subst this
 rw[List.take_length,List.take_of_length_le (by omega)]at hI2
 refine wkT ?_
 refine⟨rfl,fun _=>rfl,fun _=>?_,true,rfl⟩
 obtain⟨a1,a2,a3,a4⟩:=a
 obtain⟨b1,b2,b3,b4⟩:=b
 simp only at h1 h2 hI hI2
 subst h1 h2 hI hI2
 rfl
theorem Zg4 {av bv:Value}{a b:Bk}(ha:BkAt H av a)(hb:BkAt H bv b)(hl:a.pts.length<=1000000)(hl2:a.cks.length<=1000000)(e:a=b):LL.Zai P 43 #[av,bv] H fun v H'=>H=H'∧v=vb true:=
 LL.Zai.mono (Same_ok ha hb hl hl2) fun _ _ h=>⟨h.1,h.2.1 e⟩
end
theorem Znc (x y:Int)(l:List SPt)(i:Nat)(hi:i<l.length)(rest:List Value):ZaO (encs l++rest) (i * 5) [vi x,vi y]=encs (l.set i { l[i]with ml:=x,mh:=y })++rest:=by
 rw[Zgq x y l i hi rest,ZaG hi]
theorem sl_at {α:Type}[Enc α]{H:Hp}{r cap:Nat}{l:List α}{rest:List Value}{E:TypeId}(h:H r=some (.cells (encs l++rest).toArray E (0,0),true)):SlAt H (.slice (some ⟨r,0,none⟩) l.length cap) l:=
 ⟨_,cap,rfl,fun _=>⟨_,rfl,Zbr (Zap h)⟩⟩
theorem own_at {H0 H:Hp}{v:Value}{l:List SPt}{bb:Option Nat}(h:Own H0 H 59 v l bb)(hne:0<l.length):∃ r cap rest,v=.slice (some ⟨r,0,none⟩) l.length cap∧H r=some (.cells (encs l++rest).toArray 59 (0,0),true)∧H0 r=none:=by
 obtain⟨q0,⟨q1,q2,q3⟩ | ⟨r,cap,rest,rfl,rfl,q3,q4,q5⟩⟩:=h.own
 ·omega
 ·exact⟨r,cap,rest,rfl,q3,h.fresh r rfl⟩
structure BrN (p q n m i few many all:Int)(su st:Bool):Prop where
 p3:p=0∨p=1∨p=2
 a1:p=1->q=1
 a2:p≠2->q≠2
 a3:su=true->st=true∧m<=n
 a4:few<=many
 a5:many<=all
 a6:su=true->few=all∧i=n∧p=1
 a7:su=false->few<all
 a8:few=0↔p=2
theorem ZdZ {H:Hp}{v:Value}{s:Int}{b:Bk}(h:BkS H v s b):∃ Ap p cp Ac c cc x y,v=.tuple #[.agg #[vi x,vi y,.slice Ap p cp,.slice Ac c cc],vi s]∧BkAt H (.agg #[vi x,vi y,.slice Ap p cp,.slice Ac c cc]) (if s=0 then b else bk0):=by
 obtain⟨w,rfl,h⟩:=h
 obtain⟨pv,cv,rfl,hp,hc⟩:=id h
 obtain⟨Ap,cp,rfl,_⟩:=id hp
 obtain⟨Ac,cc,rfl,_⟩:=id hc
 exact⟨_,_,_,_,_,_,_,_,rfl,h⟩
theorem ckE (c:SCk):Enc.enc c=[vi c.p,vi c.gl,vi c.gh]:=rfl
theorem Zos {b:Bk}(v:ZbB b)(x:Boat):(Zcs b x).length=b.pts.length:=by
 have:=v.n
 rw[Zcs,List.length_take];show min _ 4=_;omega
structure LeN (p q c d a e:Int)(su st:Bool):Prop where
 a1:p=0∨p=q
 a2:c=0∨c=d
 a3:su=true->st=true∧e<=a
section
variable  {P:Prg}[Tz P][Loud P]{H:Hp}
set_option maxHeartbeats 8000000
set_option maxRecDepth 20000
theorem Zo1 {bv:Value}{b:Bk}{i:Nat}{xl xh:Int}(val:ZbB b)(hi:i<b.pts.length)(hb:BkAt H bv b):LL.Zai P 66 #[bv,vi i,.agg #[vi xl,vi xh]] H fun v H'=>Inc H H'∧BkAt H' v (rdBk b i xl xh):=by
 have hs:=Loud.loud (P:=P)
 have hn:=val.n
 obtain⟨pv,cv,rfl,hp,hc⟩:=hb
 obtain⟨Ap,cp,rfl,hp'⟩:=id hp
 obtain⟨Ac,cc,rfl,hc'⟩:=id hc
 refine IsN.m (isn c66) (args:=[.agg #[vi b.op,vi b.sl,.slice Ap b.pts.length cp,.slice Ac b.cks.length cc],vi i,.agg #[vi xl,vi xh]]) rfl ?_
 unfold n66
 refine wkT ?_
 refine ZbU (und u22) (tif t59) (hs _) fun r1 hr1=>?_
 have o1:Own H (H.ins r1 (.cells #[] 59)) 59 (.slice (some ⟨r1,0,none⟩) 0 0) ([]:List SPt) (some r1):=ZfY hr1
 have i1:Inc H (H.ins r1 (.cells #[] 59)):=Zah hr1
 generalize H.ins r1 (.cells #[] 59)=H1 at *
 refine wkT ?_
 refine ZaR (l':=b.pts) (und u22) (und u22) (tif t59) rfl (by decide) i1 o1 (hp.inc i1) (ZnH _) (by simp;omega) (by omega) rfl rfl (hs _) fun v2 H2 b2 i2 o2 _=>?_
 rw[List.nil_append]at o2
 obtain⟨r,cap,rest,rfl,q3,q0⟩:=own_at o2 (by omega)
 have hll:(encs b.pts).length=b.pts.length * 5:=ZbJ b.pts
 have hsp:=Znc xl xh b.pts i hi rest
 refine wkT ?_
 refine ZcC rfl rfl hi ?_
 refine wkT ?_
 have hadd:((⟨r,0,none⟩:Addr).add (i * 5)).add 0=⟨r,i * 5,none⟩:=by rw[Zi3,Zi3,Nat.zero_add];rfl
 rw[hadd]
 refine ZdS (v:=.agg #[vi xl,vi xh]) (cs:=encs b.pts++rest) (tif t49) rfl rfl q3 rfl (by rw[List.length_append,hll];omega) rfl (hs _) ?_
 have e5:ZaO (encs b.pts++rest) (i * 5) (Value.cells (.agg #[vi xl,vi xh])).toList=encs (rdBk b i xl xh).pts++rest:=by
  show ZaO _ _ [vi _,vi _]=_
  rw[hsp,rdBk,show b.pts[i]=ptAt b i from (ZaG hi _).symm]
 rw[e5]
 have hlen:(rdBk b i xl xh).pts.length=b.pts.length:=List.length_set ..
 have hsl:SlAt (H2.ins r (.cells (encs (rdBk b i xl xh).pts++rest).toArray 59)) (.slice (some ⟨r,0,none⟩) b.pts.length cap) (rdBk b i xl xh).pts:=by
  have:=sl_at (cap:=cap) (Hp.ins_same H2 r (.cells (encs (rdBk b i xl xh).pts++rest).toArray 59))
  rwa [hlen]at this
 have i3:Inc H (H2.ins r (.cells (encs (rdBk b i xl xh).pts++rest).toArray 59)):=Za5 i2 q0
 refine wkT ?_
 exact⟨i3,_,_,rfl,hsl,hc.inc i3⟩
theorem Zft {bv:Value}{b:Bk}(hb:BkAt H bv b)(hl:b.pts.length<=1000000)(hl2:b.cks.length<=1000000) :
  LL.Zai P 127 #[bv] H fun v H'=>Inc H H'∧BkS H' v (Zb6 b) b:=by
 have hs:=Loud.loud (P:=P)
 have hb0:=hb
 obtain⟨pv,cv,rfl,hp,hc⟩:=hb
 obtain⟨Ap,cp,rfl,hp'⟩:=id hp
 obtain⟨Ac,cc,rfl,hc'⟩:=id hc
 refine IsN.m (isn c127) (args:=[.agg #[vi b.op,vi b.sl,.slice Ap b.pts.length cp,.slice Ac b.cks.length cc]]) rfl ?_
 unfold n127
 refine wkT ?_
 refine Zab (vs:=[.agg #[vi b.op,vi b.sl,.slice Ap b.pts.length cp,.slice Ac b.cks.length cc]]) rfl (Zbs hb0 hl hl2) ?_
 rintro v _ ⟨rfl,rfl⟩
 refine wkT ?_
 refine wiT (fun h1=>?_) (fun h1=>?_)
 ·refine wkT ?_
  exact⟨.refl _,by rw[Zb6,if_pos h1];exact ZbP h1⟩
 have val:=ZaH h1
 refine wkT ?_
 refine Zab (vs:=[.agg #[vi b.op,vi b.sl,.slice Ap b.pts.length cp,.slice Ac b.cks.length cc]]) rfl (Zd2 hb0 val) ?_
 rintro v H1 ⟨i1,rows,s1,r1⟩
 have hrl:=r1.len
 refine wkT ?_
 refine Zal s1 rfl ?_
 refine wkT ?_
 refine wiT (fun h2=>?_) (fun h2=>?_)
 ·refine wkT ?_
  have h2:Zbg b=false:=by
   rw[Bool.eq_false_iff]
   intro e
   have:=ZdQ.1 e
   omega
  exact⟨i1,by rw[Zb6,if_neg (by simpa using h1),if_pos h2];exact ZbP (by decide)⟩
 ·refine wkT ?_
  have h2:Zbg b=true:=ZdQ.2 (by omega)
  refine⟨i1,?_⟩
  rw[Zb6,if_neg (by simpa using h1),if_neg (by simp[h2])]
  exact⟨_,rfl,by rw[if_pos rfl];exact hb0.inc i1⟩
theorem Zo8 {bv:Value}{b:Bk}{c:SCk}(hb:BkAt H bv b)(hl:b.pts.length<=1000000)(hl2:b.cks.length<=900000) :
  LL.Zai P 42 #[bv,.agg #[vi c.p,vi c.gl,vi c.gh]] H fun v H'=>Inc H H'∧BkS H' v (ZfH b c) (ckBk b c):=by
 have hs:=Loud.loud (P:=P)
 have hb0:=hb
 obtain⟨pv,cv,rfl,hp,hc⟩:=hb
 refine IsN.m (isn c42) (args:=[.agg #[vi b.op,vi b.sl,pv,cv],.agg #[vi c.p,vi c.gl,vi c.gh]]) rfl ?_
 unfold n42
 refine wkT ?_
 refine Zab (vs:=[.agg #[vi b.op,vi b.sl,pv,cv]]) rfl (Zbs hb0 hl (by omega)) ?_
 rintro v _ ⟨rfl,rfl⟩
 refine wkT ?_
 refine wiT (fun h1=>?_) (fun h1=>?_)
 ·refine wkT ?_
  exact⟨.refl _,by rw[ZfH,if_pos h1];exact ZbP h1⟩
 refine wkT ?_
 refine Zab (vs:=[.agg #[vi b.op,vi b.sl,pv,cv],.agg #[vi c.p,vi c.gl,vi c.gh]]) rfl (Zfw (c:=c) hb0 (by omega)) ?_
 rintro v H1 ⟨i1,hb1⟩
 refine wkT ?_
 refine Zab (vs:=[v]) rfl (Zft hb1 hl (by simp[ckBk];omega)) ?_
 rintro v2 H2 ⟨i2,w,rfl,hw⟩
 obtain⟨_,_,rfl,⟨_,_,rfl,_⟩,⟨_,_,rfl,_⟩⟩:=id hw
 refine wkT ?_
 have ek:ZfH b c=Zb6 (ckBk b c):=if_neg (by simpa using h1)
 refine⟨i1.trans i2,?_⟩
 rw[ek]
 exact⟨_,rfl,hw⟩
theorem FirmR_ok {bv:Value}{b:Bk}{n:Int}(hb:BkAt H bv b)(hl:b.pts.length<=1000000)(hl2:b.cks.length<=1000000) :
  LL.Zai P 47 #[bv,vi n] H fun v H'=>Inc H H'∧BkS H' v (Zdn b n) (fmBk b n):=by
 have hs:=Loud.loud (P:=P)
 have hb0:=hb
 obtain⟨pv,cv,rfl,hp,hc⟩:=hb
 refine IsN.m (isn c47) (args:=[.agg #[vi b.op,vi b.sl,pv,cv],vi n]) rfl ?_
 unfold n47
 refine wkT ?_
 refine Zab (vs:=[.agg #[vi b.op,vi b.sl,pv,cv]]) rfl (Zbs hb0 hl hl2) ?_
 rintro v _ ⟨rfl,rfl⟩
 refine wkT ?_
 refine wiT (fun h1=>?_) (fun h1=>?_)
 ·refine wkT ?_
  exact⟨.refl _,by rw[Zdn,if_pos h1];exact ZbP h1⟩
 refine wkT ?_
 refine Zab (vs:=[vi n,vi 0,vi b.sl]) rfl (ZkX _ _ _) ?_
 rintro v _ ⟨rfl,rfl⟩
 refine wkT ?_
 refine wiT (fun h2=>?_) (fun h2=>?_)
 ·refine wkT ?_
  exact⟨.refl _,by rw[Zdn,if_neg (by simpa using h1),if_pos (by simpa using h2)];exact ZbP (by decide)⟩
 refine wkT ?_
 refine Zab (vs:=[.agg #[vi b.op,vi b.sl,pv,cv],vi n]) rfl (ZkU hp hc) ?_
 rintro v _ ⟨rfl,rfl⟩
 refine wkT ?_
 refine Zab (vs:=[.agg #[vi b.op,vi n,pv,cv]]) rfl (Zft (b:=fmBk b n) ⟨_,_,rfl,hp,hc⟩ hl hl2) ?_
 rintro v2 H2 ⟨i2,w,rfl,hw⟩
 obtain⟨_,_,rfl,⟨_,_,rfl,_⟩,⟨_,_,rfl,_⟩⟩:=id hw
 refine wkT ?_
 have ek:Zdn b n=Zb6 (fmBk b n):=by rw[Zdn,if_neg (by simpa using h1),if_neg (by simpa using h2)]
 refine⟨i2,?_⟩
 rw[ek]
 exact⟨_,rfl,hw⟩
theorem ReadR_ok {bv:Value}{b:Bk}{n xl xh:Int}(hb:BkAt H bv b)(hl:b.pts.length<=1000000)(hl2:b.cks.length<=1000000) :
  LL.Zai P 45 #[bv,vi n,.agg #[vi xl,vi xh]] H fun v H'=>Inc H H'∧BkS H' v (Zco b n xl xh) (rdBk b n.toNat (max (ptAt b n.toNat).ml xl) (min (ptAt b n.toNat).mh xh)):=by
 have hs:=Loud.loud (P:=P)
 have hb0:=hb
 obtain⟨pv,cv,rfl,hp,hc⟩:=hb
 refine IsN.m (isn c45) (args:=[.agg #[vi b.op,vi b.sl,pv,cv],vi n,.agg #[vi xl,vi xh]]) rfl ?_
 unfold n45
 refine wkT ?_
 refine Zab (vs:=[.agg #[vi b.op,vi b.sl,pv,cv]]) rfl (Zbs hb0 hl hl2) ?_
 rintro v _ ⟨rfl,rfl⟩
 refine wkT ?_
 refine wiT (fun h1=>?_) (fun h1=>?_)
 ·refine wkT ?_
  exact⟨.refl _,by rw[Zco,if_pos h1];exact ZbP h1⟩
 have val:=ZaH h1
 refine wkT ?_
 refine Zab (vs:=[.agg #[vi b.op,vi b.sl,pv,cv],vi n]) rfl (ZgO hb0 n hl) ?_
 rintro v _ ⟨rfl,rfl⟩
 refine wkT ?_
 refine wiT (fun h2=>?_) (fun h2=>?_)
 ·refine wkT ?_
  exact⟨.refl _,by rw[Zco,if_neg (by simpa using h1),if_pos (by simpa using h2)];exact ZbP (by decide)⟩
 have h2':0<=n∧n<b.pts.length:=by simpa using h2
 refine wkT ?_
 refine Zab (vs:=[.agg #[vi xl,vi xh],vi 0,vi 99]) rfl (ZeR _ _ _ _) ?_
 rintro v _ ⟨rfl,rfl⟩
 refine wkT ?_
 refine wiT (fun h3=>?_) (fun h3=>?_)
 ·refine wkT ?_
  exact⟨.refl _,by rw[Zco,if_neg (by simpa using h1),if_neg (by simpa using h2'),if_pos (by simpa using h3)];exact ZbP (by decide)⟩
 have h3':0<=xl∧xl<=xh∧xh<=99:=by simpa using h3
 obtain⟨i,rfl⟩:∃ i:Nat,n=i:=⟨n.toNat,by omega⟩
 have hi:i<b.pts.length:=by omega
 have row:Enc.enc b.pts[i]=[vi (ptAt b i).ml,vi (ptAt b i).mh,vi (ptAt b i).bl,vi (ptAt b i).bh,vi (ptAt b i).w]:=by
  rw[show b.pts[i]=ptAt b i from (ZaG hi _).symm];rfl
 rw[Int.toNat_natCast]
 refine wkT ?_
 refine Zar hp rfl rfl rfl (i:=i) hi fun a ha=>?_
 rw[row]at ha
 refine wkT ?_
 refine Zam (cs:=[vi (ptAt b i).ml,vi (ptAt b i).mh]) (hs _) rfl (Zbr (ds:=[vi (ptAt b i).bl,vi (ptAt b i).bh,vi (ptAt b i).w]) (by rw[add_zero];exact ha)) rfl ?_
 refine wkT ?_
 refine Zab (vs:=[.agg #[_,_],.agg #[vi xl,vi xh]]) rfl (Meet_ok _ _ _ _) ?_
 rintro v _ ⟨rfl,rfl⟩
 refine kp_l hs ?_
 refine wkT ?_
 refine wiT (fun h4=>?_) (fun h4=>?_)
 ·refine wkT ?_
  exact⟨.refl _,by rw[Zco,if_neg (by simpa using h1),if_neg (by simpa using h2'),if_neg (by simpa using h3'),Int.toNat_natCast,if_pos (by omega)];exact ZbP (by decide)⟩
 refine wkT ?_
 refine Zab (vs:=[.agg #[vi b.op,vi b.sl,pv,cv],vi i,.agg #[_,_]]) rfl (Zo1 val hi hb0) ?_
 rintro v H1 ⟨i1,hb1⟩
 refine wkT ?_
 refine Zab (vs:=[v]) rfl (Zft hb1 (by simp[rdBk];omega) hl2) ?_
 rintro v2 H2 ⟨i2,w,rfl,hw⟩
 obtain⟨_,_,rfl,⟨_,_,rfl,_⟩,⟨_,_,rfl,_⟩⟩:=id hw
 refine wkT ?_
 have ek:Zco b (i:Int) xl xh=Zb6 (rdBk b i (max (ptAt b i).ml xl) (min (ptAt b i).mh xh)):=by
  rw[Zco,if_neg (by simpa using h1),if_neg (by simpa using h2'),if_neg (by simpa using h3'),Int.toNat_natCast,if_neg (by omega)]
 refine⟨i1.trans i2,?_⟩
 rw[ek]
 exact⟨_,rfl,hw⟩
end
def cntL (L:List Int)(c:Int):Int:=((L.filter fun z=>decide (z=c)).length:Int)
theorem ZdL (L:List Int)(g c:Int):cntL (L++[g]) c=cntL L c+if c=g then 1 else 0:=by
 rw[cntL,cntL,List.filter_append,List.length_append]
 by_cases h:c=g
 ·subst h;simp
 ·have:¬ g=c:=fun e=>h e.symm
  simp[h,this]
theorem ZoQ:∀ L:List Int,(∀ c,getM (askW L).1 c=cntL L c)∧(∀ c,cntL L c<=(askW L).2)∧((askW L).2=0∨∃ c∈L,(askW L).2=cntL L c):=by
 refine Zep ⟨fun c=>rfl,fun c=>Int.le_refl _,.inl rfl⟩ fun L g ⟨h1,h2,h3⟩=>?_
 rw[Zg1,Zi0]
 have e1:∀ c,getM (putM (askW L).1 g (getM (askW L).1 g+1)) c=cntL (L++[g]) c:=fun c=>by
  rw[ZiU,ZdL]
  by_cases h:c=g
  ·subst h;rw[if_pos rfl,if_pos rfl,h1]
  ·rw[if_neg h,if_neg h,h1,Int.add_zero]
 refine⟨e1,fun c=>?_,?_⟩
 ·show cntL (L++[g]) c<=max (askW L).2 (getM _ g)
  rw[e1]
  have:=h2 c
  by_cases h:c=g
  ·subst h;omega
  ·have:cntL (L++[g]) c=cntL L c:=by rw[ZdL,if_neg h,Int.add_zero]
   omega
 ·show max (askW L).2 (getM _ g)=0∨∃ c∈L++[g],max (askW L).2 (getM _ g)=cntL (L++[g]) c
  rw[e1]
  by_cases hm:(askW L).2<=cntL (L++[g]) g
  ·exact .inr ⟨g,by simp,by omega⟩
  ·have hg:0<=cntL (L++[g]) g:=by rw[cntL];omega
   rcases h3 with h3 | ⟨c,hc,h3⟩
   ·omega
   ·refine .inr ⟨c,by simp[hc],?_⟩
    have hcg:c≠g:=by
     rintro rfl
     rw[ZdL,if_pos rfl]at hm
     omega
    have e2:cntL (L++[g]) c=cntL L c:=by rw[ZdL,if_neg hcg,Int.add_zero]
    rw[e2]
    omega
def askN (b:Bk)(i:Nat):Int:=(askW (ZaL b i)).2
theorem askN_rg (b:Bk)(i:Nat):0<=askN b i∧askN b i<=(Zae b).length:=by
 have:=(ZoR (ZaL b i)).2
 rw[ZaL,List.length_map]at this
 exact this
end Go.Proofs
end
section
open Go Go.LL
namespace Go.LL
section
variable  {P:Prg}{H:Hp}{d:Option Nat}{next:NSt->Hp->Prop}{σ:NSt}{x y:Operand}
theorem ZoS {sT E T:TypeId}{esz by_ m:Nat}{zv w:Value}{xs:List Value}{a:Addr}(hu:P.toProgram.underlying sT=some (.slice E))(ti:TI P.toProgram E esz zv by_)(hz:zv.cells.size=esz)(he:0<esz)
  (hw:(m=0∧∃ A c,w=.slice A 0 c)∨∃ a c,w=.slice (some a) m c∧CellsAt H a xs) (hl:xs.length=m * esz) (h1:(xs.all Value.isOne)=true) (hb1:m<=1000000000) (hb2:by_<=1000) (hst:P.still H.gh=false)
  {K:Value->Hp->Prop} (k0:m=0->K (.slice (some a) 0 0) H) (k1:∀ r nc rest,H r=none->m<=nc->(xs++rest).length=nc * esz->K (.slice (some ⟨r,0,none⟩) m nc) (H.ins r (.cells (xs++rest).toArray E))):wpL P.toPQ (Builtin.append_ #[sT,sT] T #[.slice (some a) 0 0,w]) (fun v _ H'=>K v H') false H:=by
 obtain⟨inf,i1,i2,i3,i4⟩:=ti.ex
 have hlen:∀ Q g,Q m g H->wpL P.toPQ (Builtin.lenOf w) Q g H:=by
  intro Q g hq
  rcases hw with ⟨rfl,A,c,rfl⟩ | ⟨a,c,rfl,_⟩<;>simpa[Builtin.lenOf,Zac]using hq
 have hfirst:∀ (Q:Array Value->Bool->Hp->Prop) g,Q xs.toArray g H->wpL P.toPQ (Builtin.firstCells esz m w) Q g H:=by
  intro Q g hq
  rcases hw with ⟨rfl,A,c,rfl⟩ | ⟨a,c,rfl,hc⟩
  ·have:xs=[]:=List.eq_nil_of_length_eq_zero (by simpa using hl)
   subst this
   cases A<;>simpa[Builtin.firstCells,Zac,loadCells,loadCellsFrom]using hq
  ·simp only[Builtin.firstCells]
   exact Zdf hst hc hq hl
 have hold:∀ (Q:Array Value->Bool->Hp->Prop) g,Q #[] g H->wpL P.toPQ (Builtin.firstCells esz 0 (.slice (some a) 0 0)) Q g H:=by
  intro Q g hq
  simpa[Builtin.firstCells,Zac,loadCells,loadCellsFrom]using hq
 simp only[Builtin.append_,List.getElem?_toArray,List.getElem?_cons_zero,List.getElem?_cons_succ,Zaa,Zad hu,Zas i1,i2,Zac,Bool.false_eq_true,if_false]
 refine hlen _ _ ?_
 simp only[Bool.not_false,if_true]
 by_cases hle:0+m<=0
 ·rw[if_pos hle]
  have hm:m=0:=by omega
  subst hm
  have hxs:xs=[]:=List.eq_nil_of_length_eq_zero (by simpa using hl)
  subst hxs
  simp only[Zaa,Zac]
  refine hfirst _ _ ?_
  simpa[storeCells,Zac]using k0 rfl
 ·rw[if_neg hle]
  simp only[Zaa,Za9 i1,i4]
  rw[if_neg (by rintro⟨h,_⟩;simp[IntKind.max,IntKind.bits,IntKind.signed]at h;omega)]
  simp only[Zaa,Zac,Za9 i1,i4]
  have hcap:¬ Builtin.nextslicecap (0+m) 0 * by_ > 2 ^ 48:=by
   have h1:=ZhK (need:=0+m) (old:=0) (by omega)
   have h2:Builtin.nextslicecap (0+m) 0 * by_<=(2 * (0+m)+200) * 1000:=Nat.mul_le_mul h1 hb2
   omega
  rw[if_neg hcap]
  simp only[Zaa,Zac,choose]
  rw[wpL]
  simp only[Question.forced,Bool.false_eq_true,if_false]
  refine⟨hst,fun t=>?_⟩
  have hcut:0+m<=(Question.appendCap (0+m) 0 E).cut t:=by simp only[Question.cut];omega
  generalize (Question.appendCap (0+m) 0 E).cut t=nc at hcut
  rw[wpL]
  have hask:∀ (Q:Unit->Bool->Hp->Prop),Q () false H->wpL P.toPQ (askRoom (nc * by_)) Q false H:=by
   intro Q hq
   unfold askRoom
   split
   ·exact⟨.inr ⟨rfl,hst⟩,hq⟩
   ·exact hq
  rw[Za9 i1,i4]
  refine hask _ ?_
  refine hold _ _ ?_
  refine hfirst _ _ ?_
  simp only[Zb0 i1 i3,newRow,Zaa,newObj,Zac]
  refine⟨hst,fun r hr=>?_⟩
  have hk:=k1 r nc (Builtin.zeroCells zv.cells (nc-(0+m))).toList hr (by omega) (by
   simp only[List.length_append,hl,Array.length_toList,Zel,hz]
   rw[<-Nat.add_mul]
   congr 1
   omega)
  have e:(#[]++xs.toArray++Builtin.zeroCells zv.cells (nc-(0+m)))=(xs++(Builtin.zeroCells zv.cells (nc-(0+m))).toList).toArray:=by simp
  rw[Nat.zero_add]at e hk
  rw[Nat.zero_add,e]
  exact hk
theorem ZhJ {sT E T:TypeId}{esz by_ m:Nat}{zv w:Value}{xs:List Value}{a:Addr}(hu:P.toProgram.underlying sT=some (.slice E))(ti:TI P.toProgram E esz zv by_)(hz:zv.cells.size=esz)(he:0<esz)(e1:σ.get x=some (.slice (some a) 0 0))(e2:σ.get y=some w)
  (hw:(m=0∧∃ A c,w=.slice A 0 c)∨∃ a c,w=.slice (some a) m c∧CellsAt H a xs) (hl:xs.length=m * esz) (h1:(xs.all Value.isOne)=true) (hb1:m<=1000000000) (hb2:by_<=1000) (hst:P.still H.gh=false)
  (k0:m=0->next (σ.set d (.slice (some a) 0 0)) H) (k1:∀ r nc rest,H r=none->m<=nc->(xs++rest).length=nc * esz->next (σ.set d (.slice (some ⟨r,0,none⟩) m nc)) (H.ins r (.cells (xs++rest).toArray E))):(NOp.raw (.call { callee:=.builtin .append,args:=#[x,y],argTypes:=#[sT,sT] }) T).m P d next σ H:=by
 refine Zbh (s:=Builtin.append_ #[sT,sT] T #[.slice (some a) 0 0,w]) (by simp[Op.operands,Call.operands,e1,e2]) (by simp[execOp,bare,resolve,invoke,builtin,e1,e2]) ?_
 exact ZoS (T:=T) hu ti hz he hw hl h1 hb1 hb2 hst k0 k1
end
end Go.LL
namespace Go.Proofs
theorem ZnL {α:Type}[Enc α]{H0 H:Hp}{r nc:Nat}{E:TypeId}{l:List α}{rest:List Value}(hi:Inc H0 H)(hr:H r=none)(h2:l.length<=nc)(h3:(encs l++rest).length=nc * Enc.sz α):Own H0 (H.ins r (.cells (encs l++rest).toArray E)) E (.slice (some ⟨r,0,none⟩) l.length nc) l (some r):=
 ⟨⟨ZbJ l,.inr ⟨r,nc,rest,rfl,rfl,Hp.ins_same _ _ _,h3,h2⟩⟩,fun r' e=>by obtain rfl:=Option.some.inj e;exact Zbd hi hr⟩
section
variable  {P:Prg}[Tz P]{H:Hp}{d:Option Nat}{next:NSt->Hp->Prop}{σ:NSt}{x y:Operand}
theorem om_app0 {α:Type}[Enc α]{H0:Hp}{r:Nat}{sT E T:TypeId}{by_:Nat}{zv w:Value}{l:List α}(hu:P.toProgram.underlying sT=some (.slice E))(ti:TI P.toProgram E (Enc.sz α) zv by_)(hz:zv.cells.size=Enc.sz α)(he:0<Enc.sz α)
  (hr:H0 r=none) (hH:H=H0.ins r (.cells #[] E)) (hw:SlAt H w l) (h1:((encs l).all Value.isOne)=true) (hb1:l.length<=1000000000) (hb2:by_<=1000) (e1:σ.get x=some (.slice (some ⟨r,0,none⟩) 0 0)) (e2:σ.get y=some w) (hst:P.still H.gh=false)
  (h:∀ v' H' b',Inc H H'->Own H0 H' E v' l b'->next (σ.set d v') H'):(NOp.raw (.call { callee:=.builtin .append,args:=#[x,y],argTypes:=#[sT,sT] }) T).m P d next σ H:=by
 have hi:Inc H0 H:=by rw[hH];exact Zah hr
 obtain⟨A,c,rfl,h2⟩:=hw
 by_cases hn:l=[]
 ·subst hn
  refine ZhJ hu ti hz he e1 e2 (m:=0) (xs:=[]) (.inl ⟨rfl,A,c,rfl⟩) (by simp) rfl (by omega) hb2 hst (fun _=>?_) fun r' nc rest hr' hnc hl'=>?_
  ·exact h _ _ (some r) (.refl _) (by rw[hH];exact ZfY hr)
  ·exact h _ _ (some r') (Zah hr') (ZnL (l:=([]:List α)) hi hr' hnc hl')
 ·obtain⟨a,rfl,hc⟩:=h2 hn
  refine ZhJ hu ti hz he e1 e2 (m:=l.length) (xs:=encs l) (.inr ⟨a,c,rfl,hc⟩) (ZbJ l) h1 hb1 hb2 hst (fun h0=>absurd (List.eq_nil_of_length_eq_zero h0) hn) fun r' nc rest hr' hnc hl'=>?_
  exact h _ _ (some r') (Zah hr') (ZnL hi hr' hnc hl')
end
end Go.Proofs
end
section
open Go Go.LL
namespace Go.Proofs
theorem asc_len {l:List Int}{lo:Int}{k:Nat}(h:l.Pairwise (·<·))(h2:∀ z∈l,lo<=z∧z<lo+k):l.length<=k:=by
 have hm:∀ z∈l,z∈(List.range k).map fun (i:Nat)=>lo+(i:Int):=fun z hz=>by
  have:=h2 z hz
  exact List.mem_map.2 ⟨(z-lo).toNat,List.mem_range.2 (by omega),by omega⟩
 have:=ZeA (l:=l) (h.imp fun h e=>by subst e;omega) hm
 rwa [List.length_map,List.length_range]at this
end Go.Proofs
end
