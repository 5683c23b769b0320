import Derived.Test.YtamdhefhhdgjbaaGreatDoorN43
set_option linter.all false
section
open Go Go.LL
namespace Go.Proofs
theorem t38e:Tryz.prog.underlying 38=some (.slice 70):=by kernel_rfl
def Zb8 (b:Bk)(l:List Int)(k:Slip):List Int:=(List.range l.length).map fun i=>b.op-l.getD i 0+if k.bf<=i then k.by_ else 0
def Zjn (b:Bk)(g:List Int):Bool:=b.cks.all fun c=>decide (c.gl<=g.getD c.p.toNat 0∧g.getD c.p.toNat 0<=c.gh)
theorem ZmD {H:Hp}{a:Addr}{cs ds:List Value}{n:Nat}(h:CellsAt H a cs)(e:cs.drop n=ds):CellsAt H (a.add n) ds:=by
 subst e
 obtain⟨h1,o,p,h2,h3⟩:=h
 refine⟨ZdN h1 _,o,p,by rw[ZbY];exact h2,fun j hj=>?_⟩
 rw[List.length_drop]at hj
 rw[Zdj,Nat.add_assoc,h3 _ (by omega),List.getElem?_drop]
section
variable  {P:Prg}[Tz P][Loud P]{H:Hp}
set_option maxHeartbeats 2000000
set_option maxRecDepth 20000
theorem Zbs {bv:Value}{b:Bk}(hb:BkAt H bv b)(hl:b.pts.length<=1000000)(hl2:b.cks.length<=1000000):LL.Zai P 64 #[bv] H fun v H'=>H=H'∧v=vi (snag b):=by
 have hs:=Loud.loud (P:=P)
 have hb0:=hb
 obtain⟨pv,cv,rfl,hp,hc⟩:=hb
 obtain⟨Ap,cp,rfl,hp'⟩:=id hp
 obtain⟨Ac,cc,rfl,hc'⟩:=id hc
 refine IsN.m (isn c64) (args:=[.agg #[vi b.op,vi b.sl,.slice Ap b.pts.length cp,.slice Ac b.cks.length cc]]) rfl ?_
 unfold n64
 refine wkT ?_
 refine Zab (vs:=[vi b.op,vi 0,vi 99]) rfl (ZkX _ _ _) ?_
 rintro v _ ⟨rfl,rfl⟩
 refine wkT ?_
 have hcs:Zbq b=if (0<=b.op∧b.op<=99)∧(0<=b.sl∧b.sl<=3) then 0 else 1:=rfl
 refine wiT (fun h1=>?_) (fun h1=>?_)
 ·have:Zbq b=1:=by rw[hcs,if_neg (by omega)]
  refine wkT ?_
  exact⟨rfl,by rw[snag,if_pos (by omega),this];rfl⟩
 refine wkT ?_
 refine Zab (vs:=[vi b.sl,vi 0,vi 3]) rfl (ZkX _ _ _) ?_
 rintro v _ ⟨rfl,rfl⟩
 refine wkT ?_
 refine wiT (fun h2=>?_) (fun h2=>?_)
 ·have:Zbq b=1:=by rw[hcs,if_neg (by omega)]
  refine wkT ?_
  exact⟨rfl,by rw[snag,if_pos (by omega),this];rfl⟩
 have h0:Zbq b=0:=by rw[hcs,if_pos (by omega)]
 refine wkT ?_
 refine Zab (vs:=[vi b.pts.length,vi 2,vi 4]) rfl (ZkX _ _ _) ?_
 rintro v _ ⟨rfl,rfl⟩
 refine wkT ?_
 refine wiT (fun h3=>?_) (fun h3=>?_)
 ·have:Zbv b=2:=by rw[Zbv,if_pos (by omega)]
  refine wkT ?_
  exact⟨rfl,by rw[snag,if_neg (by omega),if_pos (by omega),this];rfl⟩
 refine wkT ?_
 refine ZaP b.pts.length (fun j H'=>H=H'∧(b.pts.take j).all okP=true) (fun j=>[(1,vi 0),(3,vi j)]) (fun _=>[(1,[vi b.op,vi b.sl,.slice Ap b.pts.length cp,.slice Ac b.cks.length cc])]) ⟨rfl,by simp⟩ ⟨rfl,rfl,trivial⟩ ⟨rfl,trivial⟩ ?_
 rintro j _ hj ⟨rfl,hall⟩
 refine wkT ?_
 refine wiT (fun h4=>?_) (fun h4=>?_)
 ·have hj':j<b.pts.length:=by omega
  refine wkT ?_
  refine Zar hp rfl rfl rfl (i:=j) hj' fun a ha=>?_
  refine wkT ?_
  refine Zam (hs _) rfl ha rfl ?_
  refine wkT ?_
  refine Zab (vs:=[.agg #[vi b.pts[j].ml,vi b.pts[j].mh],vi 0,vi 99]) rfl (ZeR _ _ _ _) ?_
  rintro v _ ⟨rfl,rfl⟩
  refine wkT ?_
  have next:okP b.pts[j]=true->(b.pts.take (j+1)).all okP=true:=fun h=>by rw[Zi2 hj',hall,h];rfl
  have stop:okP b.pts[j]=false->snag b=1:=fun h=>by
   have:Zbv b=1:=by rw[Zbv,if_neg (by omega),ZoU hj' h];rfl
   rw[snag,if_neg (by omega),if_pos (by omega),this]
  unfold okP at next stop
  refine wiT (fun h5=>?_) (fun h5=>?_)
  ·refine wkT ?_
   exact⟨rfl,by rw[stop (by simp[h5])];rfl⟩
  ·refine wkT ?_
   refine wiT (fun h6=>?_) (fun h6=>?_)
   ·refine wkT ?_
    exact⟨rfl,by rw[stop (by simp;omega)];rfl⟩
   ·refine wkT ?_
    refine Zab (vs:=[.agg #[vi b.pts[j].bl,vi b.pts[j].bh],vi 0,vi 199]) rfl (ZeR _ _ _ _) ?_
    rintro v _ ⟨rfl,rfl⟩
    refine wkT ?_
    refine wiT (fun h7=>?_) (fun h7=>?_)
    ·refine wkT ?_
     exact⟨rfl,by rw[stop (by simp;omega)];rfl⟩
    ·refine wkT ?_
     refine Zab (vs:=[vi b.pts[j].w,vi 0,vi 199]) rfl (ZkX _ _ _) ?_
     rintro v _ ⟨rfl,rfl⟩
     refine wkT ?_
     refine wiT (fun h8=>?_) (fun h8=>?_)
     ·refine wkT ?_
      exact⟨rfl,by rw[stop (by simp;omega)];rfl⟩
     ·refine wkT ?_
      exact⟨⟨j+1,by omega⟩,slt (by omega),⟨rfl,next (by simp;omega)⟩,⟨rfl,rfl,trivial⟩,⟨rfl,trivial⟩,rfl⟩
 ·have:j=b.pts.length:=by omega
  subst this
  rw[List.take_length]at hall
  have hp0:Zbv b=0:=by rw[Zbv,if_neg (by omega),if_pos hall]
  have hsn:snag b=ZbW b:=by rw[snag,if_neg (by omega),if_neg (by omega)]
  rw[hsn]
  refine wkT ?_
  refine wiT (fun h5=>?_) (fun h5=>?_)
  ·refine wkT ?_
   exact⟨rfl,by rw[ZbW,if_pos (by omega)];rfl⟩
  ·refine wkT ?_
   refine ZaP b.cks.length (fun j H'=>H=H'∧ckS b.pts.length b.cks=ckS b.pts.length (b.cks.drop j)) (fun j=>[(1,vi 0),(5,vi j)]) (fun _=>[(1,[vi b.op,vi b.sl,.slice Ap b.pts.length cp,.slice Ac b.cks.length cc])]) ⟨rfl,rfl⟩ ⟨rfl,rfl,trivial⟩ ⟨rfl,trivial⟩ ?_
   rintro j _ hj ⟨rfl,hall⟩
   refine wkT ?_
   refine wiT (fun h6=>?_) (fun h6=>?_)
   ·have hj':j<b.cks.length:=by omega
    rw[ZbL hj',ckS]at hall
    refine wkT ?_
    refine Zar hc rfl rfl rfl (i:=j) hj' fun a ha=>?_
    refine wkT ?_
    refine Zaf (hs _) rfl (Zbl (j:=0) ha rfl) ?_
    refine wkT ?_
    refine Zab (vs:=[.agg #[vi b.op,vi b.sl,.slice Ap b.pts.length cp,.slice Ac b.cks.length cc],vi b.cks[j].p]) rfl (ZgO hb0 _ hl) ?_
    rintro v _ ⟨rfl,rfl⟩
    refine wkT ?_
    refine wiT (fun h7=>?_) (fun h7=>?_)
    ·refine wkT ?_
     exact⟨rfl,by rw[ZbW,if_neg (by omega),hall,if_pos h7];rfl⟩
    ·refine wkT ?_
     refine Zar hc rfl rfl rfl (i:=j) hj' fun a ha=>?_
     refine wkT ?_
     refine Zam (cs:=[vi b.cks[j].gl,vi b.cks[j].gh]) (hs _) rfl (ZmD (n:=1) ha rfl) rfl ?_
     refine wkT ?_
     refine Zab (vs:=[.agg #[vi b.cks[j].gl,vi b.cks[j].gh],vi (-199),vi 199]) rfl (ZeR _ _ _ _) ?_
     rintro v _ ⟨rfl,rfl⟩
     refine wkT ?_
     refine wiT (fun h8=>?_) (fun h8=>?_)
     ·refine wkT ?_
      exact⟨rfl,by rw[ZbW,if_neg (by omega),hall,if_neg (by omega),if_pos h8];rfl⟩
     ·refine wkT ?_
      rw[if_neg (by omega),if_neg (by omega)]at hall
      exact⟨⟨j+1,by omega⟩,slt (by omega),⟨rfl,hall⟩,⟨rfl,rfl,trivial⟩,⟨rfl,trivial⟩,rfl⟩
   ·refine wkT ?_
    have:j=b.cks.length:=by omega
    subst this
    rw[List.drop_length]at hall
    exact⟨rfl,by rw[ZbW,if_neg (by omega),hall];rfl⟩
theorem Zni {H:Hp}{r:Nat}{k:Slip}:SlAt (H.ins r (.cells [vi k.bf,vi k.by_].toArray 70)) (.slice (some ⟨r,0,none⟩) 1 1) [k]:=ZaT (l:=[k])
theorem ZmQ {bv:Value}{b:Bk}(hb:BkAt H bv b)(h0:0<=b.sl)(h1:b.sl<=100)(h2:b.pts.length<=100)(h2':1<=b.pts.length) :
  LL.Zai P 56 #[bv] H fun v H'=>Inc H H'∧∃ bb,Own H H' 70 v ((Zat b).drop 1) bb:=by
 have hs:=Loud.loud (P:=P)
 obtain⟨pv,cv,rfl,hp,hc⟩:=hb
 obtain⟨Ap,cp,rfl,hp'⟩:=id hp
 obtain⟨Ac,cc,rfl,hc'⟩:=id hc
 obtain⟨sl,hsl⟩:∃ sl:Nat,b.sl=sl:=⟨b.sl.toNat,by omega⟩
 have hdr:(Zat b).drop 1=outerR b.pts.length sl (b.pts.length-1):=by rw[Zat,hsl];rfl
 rw[hdr]
 have hol:=Zgx b.pts.length sl
 refine IsN.m (isn c56) (args:=[.agg #[vi b.op,vi b.sl,.slice Ap b.pts.length cp,.slice Ac b.cks.length cc]]) rfl ?_
 unfold n56
 refine wkT ?_
 refine Zax (α:=Value×List Slip×Option Nat) (b.pts.length-1) (fun j s H'=>Inc H H'∧Own H H' 70 s.1 s.2.1 s.2.2∧s.2.1++outerR b.pts.length sl (b.pts.length-1-j)=outerR b.pts.length sl (b.pts.length-1)∧s.2.1.length<=j * 300)
  (fun j s=>[(1,vi 0),(3,s.1),(4,vi (j+1:Nat))]) (fun _ _=>[(1,[vi b.op,vi b.sl,.slice Ap b.pts.length cp,.slice Ac b.cks.length cc])]) (.slice none 0 0,[],none) ⟨.refl H,.nil _ _ _,rfl,by simp⟩ ⟨rfl,rfl,rfl,trivial⟩ ⟨rfl,trivial⟩ ?_
 rintro j ⟨v3,l3,b3⟩ H1 hj ⟨hi1,o3,e3,len3⟩
 simp only at o3 e3 len3
 refine wkT ?_
 refine wiT (fun h3=>?_) (fun h3=>?_)
 ·have hj':j<b.pts.length-1:=by omega
  refine wkT ?_
  refine om_neg rfl ⟨by omega,by omega⟩ ?_
  refine wkT ?_
  have e1:b.pts.length-1-j=(b.pts.length-1-(j+1))+1:=by omega
  rw[e1,outerR]at e3
  have e2:((b.pts.length:Int)-((b.pts.length-1-(j+1))+1:Nat))=(j+1:Nat):=by omega
  rw[e2]at e3
  refine Zax (α:=Value×List Slip×Option Nat) (2 * sl+1) (fun k s H'=>Inc H H'∧Own H H' 70 s.1 s.2.1 s.2.2∧s.2.1++(innerR (j+1:Nat) sl (2 * sl+1-k)++outerR b.pts.length sl (b.pts.length-1-(j+1)))=outerR b.pts.length sl (b.pts.length-1)∧s.2.1.length<=j * 300+k)
   (fun k s=>[(1,vi 0),(3,s.1),(4,vi (j+1:Nat)),(5,vi (-b.sl+k))]) (fun _ _=>[(1,[vi b.op,vi b.sl,.slice Ap b.pts.length cp,.slice Ac b.cks.length cc])]) (v3,l3,b3) ⟨hi1,o3,e3,by show l3.length<=j * 300+0;omega⟩ ⟨rfl,rfl,rfl,by simp[NSt.set],trivial⟩ ⟨rfl,trivial⟩ ?_
  rintro k ⟨v4,l4,b4⟩ H2 hk ⟨hi2,o4,e4,len4⟩
  simp only at o4 e4 len4
  refine wkT ?_
  refine wiT (fun h4=>?_) (fun h4=>?_)
  ·have hk':k<2 * sl+1:=by omega
   have e5:2 * sl+1-k=(2 * sl+1-(k+1))+1:=by omega
   have e6:(sl:Int)-(2 * sl+1-(k+1):Nat)=-b.sl+k:=by omega
   rw[e5,innerR,e6]at e4
   refine wkT ?_
   refine wiT (fun h5=>?_) (fun h5=>?_)
   ·rw[if_neg h5,List.cons_append]at e4
    refine wkT ?_
    refine Zao (cs:=[vi (j+1:Nat),vi (-b.sl+k)]) (hs _) rfl fun r1 hr1=>?_
    refine wkT ?_
    have hne1:=Zni (H:=H2) (r:=r1) (k:=⟨(j+1:Nat),-b.sl+k⟩)
    generalize hkk:(⟨(j+1:Nat),-b.sl+k⟩:Slip)=kk at *
    refine ZaR (l':=[kk]) (und t38e) (und t38e) (tif t70) rfl (by decide) (hi2.trans (Zah hr1)) (o4.ins hr1) (by subst hkk;exact hne1) rfl (by simp;omega) (by omega) rfl rfl (hs _) fun v5 H3 b5 k1 k2 k3=>?_
    refine wkT ?_
    refine⟨(⟨k+1,by omega⟩,(v5,l4++[kk],b5)),slt (by omega),⟨k1,k2,by rw[List.append_assoc];exact e4,by show (l4++[kk]).length<=j * 300+(k+1);rw[List.length_append,List.length_singleton];omega⟩,⟨rfl,rfl,rfl,?_,trivial⟩,⟨rfl,trivial⟩,rfl⟩
    show some (vi (-b.sl+k+1))=some (vi (-b.sl+(k+1:Nat)))
    congr 2;omega
   ·rw[if_pos h5]at e4
    refine wkT ?_
    refine⟨(⟨k+1,by omega⟩,(v4,l4,b4)),slt (by omega),⟨hi2,o4,e4,by show l4.length<=j * 300+(k+1);omega⟩,⟨rfl,rfl,rfl,?_,trivial⟩,⟨rfl,trivial⟩,rfl⟩
    show some (vi (-b.sl+k+1))=some (vi (-b.sl+(k+1:Nat)))
    congr 2;omega
  ·have hk2:2 * sl+1-k=0:=by omega
   rw[hk2,innerR,List.nil_append]at e4
   refine wkT ?_
   refine⟨(⟨j+1,by omega⟩,(v4,l4,b4)),slt (by omega),⟨hi2,o4,e4,by show l4.length<=(j+1) * 300;omega⟩,⟨rfl,rfl,?_,trivial⟩,⟨rfl,trivial⟩,rfl⟩
   show some (vi ((j+1:Nat)+1))=some (vi (j+1+1:Nat))
   congr 2
 ·have:j=b.pts.length-1:=by omega
  subst this
  rw[Nat.sub_self,outerR,List.append_nil]at e3
  subst e3
  refine wkT ?_
  exact⟨hi1,b3,o3⟩
end
theorem Zkt {α:Type}[Enc α]{H:Hp}{r:Nat}{E:TypeId}{l:List α}(hr:H r=none):Own H (H.ins r (.cells (encs l).toArray E)) E (.slice (some ⟨r,0,none⟩) l.length l.length) l (some r):=
 ⟨⟨ZbJ l,.inr ⟨r,l.length,[],rfl,rfl,by rw[List.append_nil];exact Hp.ins_same _ _ _,by rw[List.append_nil];exact ZbJ l,Nat.le_refl _⟩⟩,fun r' e=>by obtain rfl:=Option.some.inj e;exact hr⟩
theorem ZfY {α:Type}[Enc α]{H:Hp}{r:Nat}{E:TypeId}(hr:H r=none):Own H (H.ins r (.cells #[] E)) E (.slice (some ⟨r,0,none⟩) 0 0) ([]:List α) (some r):=Zkt (l:=([]:List α)) hr
theorem Zkl {H:Hp}{r:Nat}{E:TypeId}{v:Value}:SlAt (H.ins r (.cells [v].toArray E)) (.slice (some ⟨r,0,none⟩) 1 1) [v]:=ZaT (l:=[v])
theorem ZjP {H:Hp}{r:Nat}{E:TypeId}{x:Int}:SlAt (H.ins r (.cells [vi x].toArray E)) (.slice (some ⟨r,0,none⟩) 1 1) [x]:=ZaT (l:=[x])
section
variable  {P:Prg}[Tz P][Loud P]{H:Hp}
set_option maxHeartbeats 2000000
set_option maxRecDepth 20000
theorem Zo3 {bv lv:Value}{b:Bk}{l:List Int}{k:Slip}(hb:BkAt H bv b)(hlv:SlAt H lv l)(hl:l.length<=1000000)(ho:Sm b.op)(hsm:∀ x∈l,Sm x)(hk:Sm k.by_) :
  LL.Zai P 75 #[bv,lv,.agg #[vi k.bf,vi k.by_]] H fun v H'=>Inc H H'∧∃ bb,Own H H' 3 v (Zb8 b l k) bb:=by
 have hs:=Loud.loud (P:=P)
 obtain⟨pv,cv,rfl,hp,hc⟩:=hb
 obtain⟨o1,o2⟩:=ho
 obtain⟨k1,k2⟩:=hk
 refine IsN.m (isn c75) (args:=[.agg #[vi b.op,vi b.sl,pv,cv],lv,.agg #[vi k.bf,vi k.by_]]) rfl ?_
 unfold n75
 refine wkT ?_
 refine Zax (α:=Value×Option Nat) l.length (fun j s H'=>Inc H H'∧Own H H' 3 s.1 ((Zb8 b l k).take j) s.2) (fun j s=>[(1,lv),(3,vi 0),(5,vi 0),(7,s.1),(8,vi j)]) (fun _ _=>[(3,[vi b.op,vi b.sl,pv,cv]),(5,[vi k.bf,vi k.by_])]) (.slice none 0 0,none) ⟨.refl H,.nil _ _ _⟩ ⟨rfl,rfl,rfl,rfl,rfl,trivial⟩ ⟨rfl,rfl,trivial⟩ ?_
 rintro j ⟨v7,b7⟩ H1 hj ⟨hi1,o7⟩
 simp only at o7
 have hlen:(Zb8 b l k).length=l.length:=by simp[Zb8]
 refine wkT ?_
 refine Zal (hlv.inc hi1) rfl ?_
 refine wkT ?_
 refine wiT (fun h1=>?_) (fun h1=>?_)
 ·have hj':j<l.length:=by omega
  obtain⟨m1,m2⟩:=hsm l[j] (List.getElem_mem hj')
  have htk:(Zb8 b l k).take (j+1)=(Zb8 b l k).take j++[b.op-l[j]+if k.bf<=j then k.by_ else 0]:=by
   rw[List.take_succ_eq_append_getElem (by omega)]
   simp[Zb8,List.getD_eq_getElem?_getD,hj']
  have htl:((Zb8 b l k).take j).length<=j:=by rw[List.length_take];omega
  refine wkT ?_
  refine Zar (hlv.inc hi1) rfl rfl rfl (i:=j) hj' fun a ha=>?_
  refine wkT ?_
  refine Zaf (hs _) rfl ha ?_
  refine wkT ?_
  refine wiT (fun h2=>?_) (fun h2=>?_)
  ·rw[if_pos h2]at htk
   refine wkT ?_
   refine Zao (cs:=[vi (b.op-l[j]+k.by_)]) (hs _) rfl fun r1 hr1=>?_
   refine wkT ?_
   refine ZaR (l':=[b.op-l[j]+k.by_]) (und u34) (und u34) (tif t3) rfl (by decide) (hi1.trans (Zah hr1)) (o7.ins hr1) ZjP rfl (by simp;omega) (by omega) rfl rfl (hs _) fun v8 H3 b8 g1 g2 g3=>?_
   rw[<-htk]at g2
   refine wkT ?_
   exact⟨(⟨j+1,by omega⟩,(v8,b8)),slt (by omega),⟨g1,g2⟩,⟨rfl,rfl,rfl,rfl,rfl,trivial⟩,⟨rfl,rfl,trivial⟩,rfl⟩
  ·rw[if_neg h2,Int.add_zero]at htk
   refine wkT ?_
   refine Zao (cs:=[vi (b.op-l[j])]) (hs _) rfl fun r1 hr1=>?_
   refine wkT ?_
   refine ZaR (l':=[b.op-l[j]]) (und u34) (und u34) (tif t3) rfl (by decide) (hi1.trans (Zah hr1)) (o7.ins hr1) ZjP rfl (by simp;omega) (by omega) rfl rfl (hs _) fun v8 H3 b8 g1 g2 g3=>?_
   rw[<-htk]at g2
   refine wkT ?_
   exact⟨(⟨j+1,by omega⟩,(v8,b8)),slt (by omega),⟨g1,g2⟩,⟨rfl,rfl,rfl,rfl,rfl,trivial⟩,⟨rfl,rfl,trivial⟩,rfl⟩
 ·have:j=l.length:=by omega
  subst this
  rw[List.take_of_length_le (by omega)]at o7
  refine wkT ?_
  exact⟨hi1,b7,o7⟩
theorem Zno {bv gv:Value}{b:Bk}{g:List Int}(hb:BkAt H bv b)(hgv:SlAt H gv g)(hl2:b.cks.length<=1000000)(hck:∀ c∈b.cks,0<=c.p∧c.p<g.length) :
  LL.Zai P 142 #[bv,gv] H fun v H'=>H=H'∧v=vb (Zjn b g):=by
 have hs:=Loud.loud (P:=P)
 obtain⟨pv,cv,rfl,hp,hc⟩:=hb
 refine IsN.m (isn c142) (args:=[.agg #[vi b.op,vi b.sl,pv,cv],gv]) rfl ?_
 unfold n142
 refine wkT ?_
 refine ZaP b.cks.length (fun j H'=>H=H'∧((b.cks.take j).all fun c=>decide (c.gl<=g.getD c.p.toNat 0∧g.getD c.p.toNat 0<=c.gh))=true) (fun j=>[(1,gv),(2,vi 0),(5,vi j)]) (fun _=>[(2,[vi b.op,vi b.sl,pv,cv])]) ⟨rfl,rfl⟩ ⟨rfl,rfl,rfl,trivial⟩ ⟨rfl,trivial⟩ ?_
 rintro j _ hj ⟨rfl,hall⟩
 refine wkT ?_
 refine Zal hc rfl ?_
 refine wkT ?_
 refine wiT (fun h1=>?_) (fun h1=>?_)
 ·have hj':j<b.cks.length:=by omega
  obtain⟨c1,c2⟩:=hck b.cks[j] (List.getElem_mem hj')
  have hat:=Zi2 (f:=fun c:SCk=>decide (c.gl<=g.getD c.p.toNat 0∧g.getD c.p.toNat 0<=c.gh)) hj'
  have hno:=ZoU (f:=fun c:SCk=>decide (c.gl<=g.getD c.p.toNat 0∧g.getD c.p.toNat 0<=c.gh)) hj'
  obtain⟨p,hp2⟩:∃ p:Nat,b.cks[j].p=p:=⟨b.cks[j].p.toNat,by omega⟩
  have hpl:p<g.length:=by omega
  refine wkT ?_
  refine Zar hc rfl rfl rfl (i:=j) hj' fun a ha=>?_
  refine wkT ?_
  refine Zam (hs _) rfl ha rfl ?_
  refine wkT ?_
  refine Zar hgv rfl (by rw[<-hp2];rfl) rfl (i:=p) hpl fun q hq=>?_
  refine wkT ?_
  refine Zaf (hs _) rfl hq ?_
  refine wkT ?_
  refine Zab (vs:=[vi g[p],vi b.cks[j].gl,vi b.cks[j].gh]) rfl (ZkX _ _ _) ?_
  rintro v _ ⟨rfl,rfl⟩
  have hgd:g.getD b.cks[j].p.toNat 0=g[p]:=by rw[hp2,Int.toNat_natCast];exact ZaG hpl _
  simp only[hgd]at hat hno
  refine wkT ?_
  refine wiT (fun h2=>?_) (fun h2=>?_)
  ·refine wkT ?_
   exact⟨rfl,by rw[Zjn,hno (decide_eq_false h2)];rfl⟩
  ·refine wkT ?_
   exact⟨⟨j+1,by omega⟩,slt (by omega),⟨rfl,by rw[hat,hall,decide_eq_true (by omega)];rfl⟩,⟨rfl,rfl,rfl,trivial⟩,⟨rfl,trivial⟩,rfl⟩
 ·have:j=b.cks.length:=by omega
  subst this
  rw[List.take_length]at hall
  refine wkT ?_
  exact⟨rfl,by rw[Zjn,hall];rfl⟩
theorem Zkb {u w:Value}{a b:List Slip}(ha:SlAt H u a)(hb:SlAt H w b)(hl:a.length<=1000000)(hl2:b.length<=1000000):LL.Zai P 28 #[u,w] H fun v H'=>H=H'∧(a=b->v=vb true)∧(v=vb true->a=b)∧∃ x,v=vb x:=by
 have hs:=Loud.loud (P:=P)
 refine IsN.m (isn c28) (args:=[u,w]) rfl ?_
 unfold n28
 refine wkT ?_
 refine Zal ha rfl ?_
 refine wkT ?_
 refine Zal hb rfl ?_
 refine wkT ?_
 refine wiT (fun h1=>?_) (fun h1=>?_)
 ·refine wkT ?_
  exact⟨rfl,by rintro rfl;exact absurd rfl h1,fun h=>by simp[Zbt]at h,false,rfl⟩
 ·have hlen:a.length=b.length:=by omega
  refine wkT ?_
  refine ZaP a.length (fun j H'=>H=H'∧a.take j=b.take j) (fun j=>[(0,u),(1,w),(5,vi j)]) (fun _=>[]) ⟨rfl,rfl⟩ ⟨rfl,rfl,rfl,trivial⟩ trivial ?_
  rintro j _ hj ⟨rfl,hall⟩
  refine wkT ?_
  refine Zal ha rfl ?_
  refine wkT ?_
  refine wiT (fun h2=>?_) (fun h2=>?_)
  ·have hj':j<a.length:=by omega
   refine wkT ?_
   refine Zar ha rfl rfl rfl (i:=j) hj' fun p hp=>?_
   refine wkT ?_
   refine Zam (hs _) rfl hp rfl ?_
   refine wkT ?_
   refine Zar hb rfl rfl rfl (i:=j) (by omega) fun q hq=>?_
   refine wkT ?_
   refine Zam (hs _) rfl hq rfl ?_
   refine wkT ?_
   refine Zjz (b:=decide (a[j].bf=b[j].bf∧a[j].by_=b[j].by_)) (xs:=#[vi a[j].bf,vi a[j].by_]) (ys:=#[vi b[j].bf,vi b[j].by_]) g70 (fun Q g H hq=>eqP (.inl s70) Q hq) rfl rfl ?_
   refine wkT ?_
   refine wiT (fun h3=>?_) (fun h3=>?_)
   ·refine wkT ?_
    exact⟨rfl,by rintro rfl;exact absurd ⟨rfl,rfl⟩ h3,fun h=>by simp[Zbt]at h,false,rfl⟩
   ·have e:a[j]=b[j]:=by
     generalize a[j]=x at *
     generalize b[j]=y at *
     obtain⟨x1,x2⟩:=x
     obtain⟨y1,y2⟩:=y
     simp only at h3
     obtain⟨rfl,rfl⟩:=h3
     rfl
    refine wkT ?_
    exact⟨⟨j+1,by omega⟩,slt (by omega),⟨rfl,by rw[List.take_succ_eq_append_getElem hj',List.take_succ_eq_append_getElem (show j<b.length by omega),hall,e]⟩,⟨rfl,rfl,rfl,trivial⟩,trivial,rfl⟩
  ·have:j=a.length:=by omega
   subst this
   rw[List.take_length,List.take_of_length_le (by omega)]at hall
   refine wkT ?_
   exact⟨rfl,fun _=>rfl,fun _=>hall,true,rfl⟩
end
def Zcz (b:Bk)(i:Nat):List Int:=(List.range ((ptAt b i).mh-(ptAt b i).ml+1).toNat).map fun (t:Nat)=>(ptAt b i).ml+t
def mkL (b:Bk):Nat->List (List Int)
 | 0=>[[]]
 | i+1=>(mkL b i).flatMap fun l=>(Zcz b i).map fun n=>l++[n]
theorem ZjX {α β:Type}{f:α->List β}{l:List α}{j:Nat}(hj:j<l.length):(l.take (j+1)).flatMap f=(l.take j).flatMap f++f l[j]:=by
 rw[List.take_succ_eq_append_getElem hj,List.flatMap_append];simp
theorem Zne {b:Bk}(v:ZbB b){i:Nat}(hi:i<b.pts.length):(Zcz b i).length<=3:=by
 rw[Zcz,List.length_map,List.length_range,show ptAt b i=b.pts[i] from ZaG hi _]
 have:=v.pts i hi
 omega
theorem Zf7 {α β:Type}{f:α->List β}{k:Nat}:∀ {l:List α},(∀ x∈l,(f x).length<=k)->(l.flatMap f).length<=l.length * k
 | [],_=>by simp
 | a :: l,h=>by
  have h1:=h a (List.mem_cons_self ..)
  have h2:=Zf7 (f:=f) (k:=k) (l:=l) fun x hx=>h x (List.mem_cons_of_mem _ hx)
  rw[List.flatMap_cons,List.length_append,List.length_cons,Nat.succ_mul]
  omega
theorem Zn3 {b:Bk}(v:ZbB b):∀ i,i<=b.pts.length->(mkL b i).length<=3 ^ i
 | 0,_=>by simp[mkL]
 | i+1,hi=>by
  rw[mkL,Nat.pow_succ]
  exact Nat.le_trans (Zf7 fun l hl=>by rw[List.length_map];exact Zne v (by omega)) (Nat.mul_le_mul_right _ (Zn3 v i (by omega)))
theorem Zlw {b:Bk}(v:ZbB b):∀ i,i<=b.pts.length->∀ l∈mkL b i,l.length=i∧∀ x∈l,0<=x∧x<=99
 | 0,_,l,hl=>by
  rw[mkL,List.mem_singleton]at hl
  subst hl;simp
 | i+1,hi,l,hl=>by
  rw[mkL,List.mem_flatMap]at hl
  obtain⟨m,hm,hl⟩:=hl
  obtain⟨n,hn,rfl⟩:=List.mem_map.1 hl
  obtain⟨h1,h2⟩:=Zlw v i (by omega) m hm
  refine⟨by simp[h1],fun x hx=>?_⟩
  rcases List.mem_append.1 hx with hx | hx
  ·exact h2 x hx
  ·rw[List.mem_singleton.1 hx]
   rw[Zcz,List.mem_map]at hn
   obtain⟨t,ht,rfl⟩:=hn
   rw[List.mem_range]at ht
   rw[show ptAt b i=b.pts[i] from ZaG (by omega) _]at ht ⊢
   have:=v.pts i (by omega)
   omega
theorem ZlQ {H:Hp}{a:Addr}{cs:List Value}(h:CellsAt H a cs):CellsAt H (a.add 0) cs:=by rw[add_zero];exact h
section
variable  {P:Prg}[Tz P][Loud P]{H:Hp}
set_option maxHeartbeats 4000000
set_option maxRecDepth 20000
theorem ZmR {bv:Value}{b:Bk}(hb:BkAt H bv b)(v:ZbB b) :
  LL.Zai P 145 #[bv] H fun v H'=>Inc H H'∧∃ vs,SlAt H' v vs∧LLAt H' vs (mkL b b.pts.length):=by
 have hs:=Loud.loud (P:=P)
 have hn:=v.n
 obtain⟨pv,cv,rfl,hp,hc⟩:=hb
 refine IsN.m (isn c145) (args:=[.agg #[vi b.op,vi b.sl,pv,cv]]) rfl ?_
 unfold n145
 refine wkT ?_
 refine Zao (cs:=[.slice none 0 0]) (hs _) rfl fun r0 hr0=>?_
 have s0:SlAt (H.ins r0 (.cells [Value.slice none 0 0].toArray 34)) (.slice (some ⟨r0,0,none⟩) 1 1) [Value.slice none 0 0]:=Zkl
 have l0:LLAt (H.ins r0 (.cells [Value.slice none 0 0].toArray 34)) [Value.slice none 0 0] (mkL b 0):=(LLAt.nil _).snoc (.nil _)
 have i0:Inc H (H.ins r0 (.cells [Value.slice none 0 0].toArray 34)):=Zah hr0
 generalize H.ins r0 (.cells [Value.slice none 0 0].toArray 34)=H0 at *
 refine wkT ?_
 refine Zax (α:=Value×List Value) b.pts.length (fun i s H'=>Inc H H'∧SlAt H' s.1 s.2∧LLAt H' s.2 (mkL b i)) (fun i s=>[(1,vi 0),(3,s.1),(4,vi i)]) (fun _ _=>[(1,[vi b.op,vi b.sl,pv,cv])]) (.slice (some ⟨r0,0,none⟩) 1 1,[.slice none 0 0]) ⟨i0,s0,l0⟩ ⟨rfl,rfl,rfl,trivial⟩ ⟨rfl,trivial⟩ ?_
 rintro i ⟨v3,vs⟩ H1 hi ⟨i1,s3,l3⟩
 simp only at s3 l3
 have hl3:=l3.len
 have hml:=Zn3 v i hi
 have h81:3 ^ i<=3 ^ 4:=Nat.pow_le_pow_right (by decide) (by omega)
 refine wkT ?_
 refine Zal (hp.inc i1) rfl ?_
 refine wkT ?_
 refine wiT (fun h1=>?_) (fun h1=>?_)
 ·have hi':i<b.pts.length:=by omega
  have hsp:=Zne v hi'
  have hpt:ptAt b i=b.pts[i]:=ZaG hi' _
  obtain⟨p1,p2,_⟩:=v.pts i hi'
  refine wkT ?_
  refine Zax (α:=Hp×Value×List Value×Option Nat) vs.length (fun k s H'=>Inc H1 s.1∧Inc s.1 H'∧Own s.1 H' 34 s.2.1 s.2.2.1 s.2.2.2∧LLAt s.1 s.2.2.1 (((mkL b i).take k).flatMap fun l=>(Zcz b i).map fun n=>l++[n]))
   (fun k s=>[(1,vi 0),(3,v3),(4,vi i),(5,s.2.1),(6,vi k)]) (fun _ _=>[(1,[vi b.op,vi b.sl,pv,cv])]) (H1,.slice none 0 0,[],none) ⟨.refl H1,.refl H1,.nil _ _ _,.nil _⟩ ⟨rfl,rfl,rfl,rfl,rfl,trivial⟩ ⟨rfl,trivial⟩ ?_
  rintro k ⟨G,v5,ws,b5⟩ H2 hk ⟨g1,g2,o5,l5⟩
  simp only at g1 g2 o5 l5
  have hl5:=l5.len
  have hwl:ws.length<=k * 3:=by
   rw[hl5]
   refine Nat.le_trans (Zf7 (k:=3) fun l hl=>by rw[List.length_map];exact hsp) (Nat.mul_le_mul_right _ (by rw[List.length_take];omega))
  refine wkT ?_
  refine Zal (s3.inc (g1.trans g2)) rfl ?_
  refine wkT ?_
  refine wiT (fun h2=>?_) (fun h2=>?_)
  ·have hk':k<vs.length:=by omega
   have hkm:k<(mkL b i).length:=by omega
   have hft:=ZjX (f:=fun l=>(Zcz b i).map fun n=>l++[n]) hkm
   obtain⟨hml1,hml2⟩:=Zlw v i (by omega) (mkL b i)[k] (List.getElem_mem hkm)
   have hsk:=l3.at_ k hk' hkm
   generalize (mkL b i)[k]=l at *
   generalize (List.flatMap (fun l=>(Zcz b i).map fun n=>l++[n]) ((mkL b i).take k))=L at *
   refine wkT ?_
   refine Zar ((hp.inc i1).inc (g1.trans g2)) rfl rfl rfl (i:=i) hi' fun a ha=>?_
   refine wkT ?_
   refine Zaf (hs _) rfl (Zbl (j:=0) (ZlQ ha) rfl) ?_
   refine wkT ?_
   have hcnt:(Zcz b i).length=(b.pts[i].mh-b.pts[i].ml+1).toNat:=by rw[Zcz,List.length_map,List.length_range,hpt]
   refine Zax (α:=Hp×Value×List Value×Option Nat) (Zcz b i).length (fun t s H'=>Inc H1 s.1∧Inc s.1 H'∧Own s.1 H' 34 s.2.1 s.2.2.1 s.2.2.2∧LLAt s.1 s.2.2.1 (L++((Zcz b i).take t).map fun n=>l++[n]))
    (fun t s=>[(1,vi 0),(3,v3),(4,vi i),(5,s.2.1),(6,vi k),(7,vi (b.pts[i].ml+t))]) (fun _ _=>[(1,[vi b.op,vi b.sl,pv,cv])]) (G,v5,ws,b5) ⟨g1,g2,o5,by simpa using l5⟩ ⟨rfl,rfl,rfl,rfl,rfl,by simp[NSt.set],trivial⟩ ⟨rfl,trivial⟩ ?_
   rintro t ⟨G1,v6,us,b6⟩ H3 ht ⟨q1,q2,o6,l6⟩
   simp only at q1 q2 o6 l6
   have hl6:=l6.len
   refine wkT ?_
   refine Zar ((hp.inc i1).inc (q1.trans q2)) rfl rfl rfl (i:=i) hi' fun a ha=>?_
   refine wkT ?_
   refine Zaf (hs _) rfl (Zbl (j:=1) (ZlQ ha) rfl) ?_
   refine wkT ?_
   refine wiT (fun h3=>?_) (fun h3=>?_)
   ·have ht':t<(Zcz b i).length:=by omega
    have hsv:(Zcz b i)[t]=b.pts[i].ml+t:=by simp[Zcz,hpt]
    have hts:(L++((Zcz b i).take (t+1)).map fun n=>l++[n])=(L++((Zcz b i).take t).map fun n=>l++[n])++[l++[b.pts[i].ml+t]]:=by
     rw[List.take_succ_eq_append_getElem ht',List.map_append,hsv,List.append_assoc];rfl
    have hul:us.length<=300:=by
     rw[hl6,List.length_append,List.length_map,List.length_take]
     omega
    refine wkT ?_
    refine ZbU (und u34) (tif t3) (hs _) fun r1 hr1=>?_
    have o7:Own H3 (H3.ins r1 (.cells #[] 3)) 3 (.slice (some ⟨r1,0,none⟩) 0 0) ([]:List Int) (some r1):=ZfY hr1
    have q3:Inc H3 (H3.ins r1 (.cells #[] 3)):=Zah hr1
    generalize H3.ins r1 (.cells #[] 3)=H4 at *
    refine wkT ?_
    refine Zar ((s3.inc (q1.trans q2)).inc q3) rfl rfl rfl (i:=k) hk' fun a ha=>?_
    refine wkT ?_
    refine Zaf (hs _) rfl ha ?_
    refine wkT ?_
    refine ZaR (l':=l) (und u34) (und u34) (tif t3) rfl (by decide) q3 o7 (hsk.inc ((q1.trans q2).trans q3)) (ZiO l) (by simp;omega) (by omega) rfl rfl (hs _) fun v8 H5 b8 q4 o8 _=>?_
    refine wkT ?_
    refine Zao (cs:=[vi (b.pts[i].ml+t)]) (hs _) rfl fun r2 hr2=>?_
    refine wkT ?_
    refine ZaR (l':=[b.pts[i].ml+t]) (und u34) (und u34) (tif t3) rfl (by decide) (q4.trans (Zah hr2)) (o8.ins hr2) ZjP rfl (by simp;omega) (by omega) rfl rfl (hs _) fun v9 H6 b9 q5 o9 _=>?_
    rw[List.nil_append]at o9
    obtain⟨G2,w1,w2,w3,w4⟩:=Ziu q2 o6 q5 o9
    obtain⟨A9,c9,rfl,_⟩:=id w4
    refine wkT ?_
    refine Zao (cs:=[.slice A9 (l++[b.pts[i].ml+↑t]).length c9]) (hs _) rfl fun r3 hr3=>?_
    refine wkT ?_
    refine ZaR (l':=[Value.slice A9 (l++[b.pts[i].ml+↑t]).length c9]) (und u157) (und u157) (tif t34) rfl (by decide) (w2.trans (Zah hr3)) (w3.ins hr3) Zkl rfl (by simp;omega) (by omega) rfl rfl (hs _) fun v10 H7 b10 q6 o10 _=>?_
    refine wkT ?_
    refine⟨(⟨t+1,by omega⟩,(G2,v10,us++[.slice A9 (l++[b.pts[i].ml+↑t]).length c9],b10)),slt (by omega),⟨q1.trans w1,q6,o10,by rw[hts];exact(l6.inc w1).snoc w4⟩,⟨rfl,rfl,rfl,rfl,rfl,?_,trivial⟩,⟨rfl,trivial⟩,rfl⟩
    show some (vi (b.pts[i].ml+t+1))=some (vi (b.pts[i].ml+(t+1:Nat)))
    congr 2;omega
   ·have:t=(Zcz b i).length:=by omega
    subst this
    rw[List.take_length]at l6
    refine wkT ?_
    exact⟨(⟨k+1,by omega⟩,(G1,v6,us,b6)),slt (by omega),⟨q1,q2,o6,by rw[hft];exact l6⟩,⟨rfl,rfl,rfl,rfl,rfl,trivial⟩,⟨rfl,trivial⟩,rfl⟩
  ·have:k=vs.length:=by omega
   subst this
   rw[List.take_of_length_le (by omega)]at l5
   refine wkT ?_
   exact⟨(⟨i+1,by omega⟩,(v5,ws)),slt (by omega),⟨(i1.trans g1).trans g2,o5.sl,l5.inc g2⟩,⟨rfl,rfl,rfl,trivial⟩,⟨rfl,trivial⟩,rfl⟩
 ·have:i=b.pts.length:=by omega
  subst this
  refine wkT ?_
  exact⟨i1,vs,s3,l3⟩
end
end Go.Proofs
end
