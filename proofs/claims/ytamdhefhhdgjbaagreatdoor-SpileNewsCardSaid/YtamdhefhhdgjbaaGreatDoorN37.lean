import Derived.Test.YtamdhefhhdgjbaaGreatDoorN36
set_option linter.all false
section
open Go Go.LL
namespace Go.Proofs
def bk0:Bk:=⟨0,0,[],[]⟩
def Zb6 (b:Bk):Int:=if snag b≠0 then snag b else if Zbg b=false then 9 else 0
abbrev bookV0:Value:=.agg #[vi 0,vi 0,.slice none 0 0,.slice none 0 0]
theorem bk0_at (H:Hp):BkAt H bookV0 bk0:=⟨_,_,rfl,.nil H,.nil H⟩
def BkS (H:Hp)(v:Value)(s:Int)(b:Bk):Prop:=∃ w,v=.tuple #[w,vi s]∧BkAt H w (if s=0 then b else bk0)
theorem Zle {α:Type}[Enc α]{H H':Hp}{E:TypeId}{v':Value}{l:List α}(h:(l=[]∧v'=.slice none 0 0)∨∃ b,Own H H' E v' l b):∃ b,Own H H' E v' l b:=by
 rcases h with ⟨rfl,rfl⟩ | h
 ·exact⟨none,.nil _ _ _⟩
 ·exact h
theorem ZbP {H:Hp}{s:Int}{b:Bk}(h:s≠0):BkS H (.tuple #[bookV0,vi s]) s b:=⟨_,rfl,by rw[if_neg h];exact bk0_at H⟩
section
variable  {P:Prg}[Tz P][Loud P]{H:Hp}
set_option maxHeartbeats 1000000
theorem Zg3 {bv:Value}{b:Bk}(hb:BkAt H bv b)(hg:Zba H)(hl:b.pts.length<=1000000)(hl2:b.cks.length<=1000000) :
  LL.Zai P 126 #[bv] H fun v H'=>Inc H H'∧BkS H' v (Zb6 b) b:=by
 have hs:=Loud.loud (P:=P)
 have hb0:=hb
 obtain⟨pv,cv,rfl,hp,hc⟩:=hb
 refine IsN.m (isn c126) (args:=[.agg #[vi b.op,vi b.sl,pv,cv]]) rfl ?_
 unfold n126
 obtain⟨Ap,cp,rfl,hp'⟩:=id hp
 obtain⟨Ac,cc,rfl,hc'⟩:=id hc
 refine wkT ?_
 refine Zab (vs:=[.agg #[vi b.op,vi b.sl,.slice Ap b.pts.length cp,.slice Ac b.cks.length cc]]) rfl (ZaU hb0 hg hl hl2 (hs _)) ?_
 rintro v _ ⟨rfl,rfl⟩
 refine wkT ?_
 refine wiT (fun h1=>?_) (fun h1=>?_)
 ·refine wkT ?_
  exact⟨.refl _,by rw[Zb6,if_pos h1];exact ZbP h1⟩
 ·have val:=ZaH h1
  refine wkT ?_
  refine Zab (vs:=[.agg #[vi b.op,vi b.sl,.slice Ap b.pts.length cp,.slice Ac b.cks.length cc]]) rfl (Zkk hb0 val.good) ?_
  rintro v H1 ⟨hi1,rfl⟩
  refine wkT ?_
  refine wiT (fun h2=>?_) (fun h2=>?_)
  ·refine wkT ?_
   exact⟨hi1,by rw[Zb6,if_neg (by simpa using h1),if_pos h2];exact ZbP (by decide)⟩
  ·refine wkT ?_
   refine Zab (vs:=[.slice Ap b.pts.length cp]) rfl (Zha (hp.inc hi1) hl (hs _)) ?_
   rintro v H2 ⟨hi2,h⟩
   obtain⟨b2,o2⟩:=Zle h
   obtain⟨A2,c2,rfl,_⟩:=id o2.sl
   refine kp_l hs ?_
   refine wkT ?_
   refine Zab (vs:=[.slice Ac b.cks.length cc]) rfl (Zhb ((hc.inc hi1).inc hi2.inc) hl2 (hs _)) ?_
   rintro v H3 ⟨hi3,h⟩
   obtain⟨b3,o3⟩:=Zle h
   obtain⟨A3,c3,rfl,_⟩:=id o3.sl
   refine kp_l hs ?_
   refine wkT ?_
   refine⟨(hi1.trans hi2.inc).trans hi3.inc,?_⟩
   rw[Zb6,if_neg (by simpa using h1),if_neg (by simp[h2])]
   exact⟨_,rfl,by rw[if_pos rfl];exact⟨_,_,rfl,o2.sl.inc hi3.inc,o3.sl⟩⟩
def ckBk (b:Bk)(c:SCk):Bk:={ b with cks:=b.cks++[c] }
def ZfH (b:Bk)(c:SCk):Int:=if snag b≠0 then snag b else Zb6 (ckBk b c)
theorem Zig {H:Hp}{r:Nat}{c:SCk}:SlAt (H.ins r (.cells [vi c.p,vi c.gl,vi c.gh].toArray 51)) (.slice (some ⟨r,0,none⟩) 1 1) [c]:=ZaT (l:=[c])
theorem ZlV {bv:Value}{b:Bk}{c:SCk}(hb:BkAt H bv b)(hg:Zba H)(hl:b.pts.length<=1000000)(hl2:b.cks.length<=1000000) :
  LL.Zai P 41 #[bv,.agg #[vi c.p,vi c.gl,vi c.gh]] H fun v H'=>Inc H H'∧BkS H' v (ZfH b c) (ckBk b c):=by
 have hs:=Loud.loud (P:=P)
 have hb0:=hb
 obtain⟨pv,cv,rfl,hp,hc⟩:=hb
 refine IsN.m (isn c41) (args:=[.agg #[vi b.op,vi b.sl,pv,cv],.agg #[vi c.p,vi c.gl,vi c.gh]]) rfl ?_
 unfold n41
 obtain⟨Ap,cp,rfl,hp'⟩:=id hp
 obtain⟨Ac,cc,rfl,hc'⟩:=id hc
 refine wkT ?_
 refine Zab (vs:=[.agg #[vi b.op,vi b.sl,.slice Ap b.pts.length cp,.slice Ac b.cks.length cc]]) rfl (ZaU hb0 hg hl hl2 (hs _)) ?_
 rintro v _ ⟨rfl,rfl⟩
 refine wkT ?_
 refine wiT (fun h1=>?_) (fun h1=>?_)
 ·refine wkT ?_
  exact⟨.refl _,by rw[ZfH,if_pos h1];exact ZbP h1⟩
 ·have val:=ZaH h1
  have:=val.ckn
  refine wkT ?_
  refine Zab (vs:=[.slice Ac b.cks.length cc]) rfl (Zhb hc hl2 (hs _)) ?_
  rintro v H3 ⟨hi3,h⟩
  obtain⟨b3,o3⟩:=Zle h
  refine kp_l hs ?_
  refine wkT ?_
  refine Zao (cs:=[vi c.p,vi c.gl,vi c.gh]) (hs _) rfl fun r5 hr5=>?_
  refine kp_l hs ?_
  refine wkT ?_
  refine ZaR (l':=[c]) (und u23) (und u23) (tif t51) rfl (by decide) (hi3.inc.trans (Zah hr5)) (o3.ins hr5) Zig rfl (by simp;omega) (by omega) rfl rfl (hs _) fun v4 H4 b4 k1 k2 k3=>?_
  have s4:=k2.sl
  obtain⟨A4,c4,rfl,_⟩:=id s4
  refine wkT ?_
  refine Zab (vs:=[.agg #[vi b.op,vi b.sl,.slice Ap b.pts.length cp,.slice A4 (b.cks++[c]).length c4]]) rfl (Zg3 (b:=ckBk b c) ⟨_,_,rfl,hp.inc k1,s4⟩ (CellsAt.inc hg k1) hl (by simp[ckBk];omega)) ?_
  rintro v H5 ⟨hi5,w,rfl,hw⟩
  obtain⟨_,_,rfl,⟨_,_,rfl,_⟩,⟨_,_,rfl,_⟩⟩:=id hw
  refine wkT ?_
  have ek:ZfH b c=Zb6 (ckBk b c):=if_neg (by simpa using h1)
  refine⟨k1.trans hi5,?_⟩
  rw[ek]
  exact⟨_,rfl,hw⟩
def fmBk (b:Bk)(n:Int):Bk:={ b with sl:=n }
def Zdn (b:Bk)(n:Int):Int:=if snag b≠0 then snag b else if ¬ (0<=n∧n<=b.sl) then 1 else Zb6 (fmBk b n)
theorem Zo4 {bv:Value}{b:Bk}{n:Int}(hb:BkAt H bv b)(hg:Zba H)(hl:b.pts.length<=1000000)(hl2:b.cks.length<=1000000) :
  LL.Zai P 46 #[bv,vi n] H fun v H'=>Inc H H'∧BkS H' v (Zdn b n) (fmBk b n):=by
 have hs:=Loud.loud (P:=P)
 have hb0:=hb
 obtain⟨pv,cv,rfl,hp,hc⟩:=hb
 refine IsN.m (isn c46) (args:=[.agg #[vi b.op,vi b.sl,pv,cv],vi n]) rfl ?_
 unfold n46
 obtain⟨Ap,cp,rfl,hp'⟩:=id hp
 obtain⟨Ac,cc,rfl,hc'⟩:=id hc
 refine wkT ?_
 refine Zab (vs:=[.agg #[vi b.op,vi b.sl,.slice Ap b.pts.length cp,.slice Ac b.cks.length cc]]) rfl (ZaU hb0 hg hl hl2 (hs _)) ?_
 rintro v _ ⟨rfl,rfl⟩
 refine wkT ?_
 refine wiT (fun h1=>?_) (fun h1=>?_)
 ·refine wkT ?_
  exact⟨.refl _,by rw[Zdn,if_pos h1];exact ZbP h1⟩
 ·refine wkT ?_
  refine Zab (vs:=[vi n,vi 0,vi b.sl]) rfl (ZbI n 0 b.sl) ?_
  rintro v _ ⟨rfl,rfl⟩
  refine wkT ?_
  refine wiT (fun h2=>?_) (fun h2=>?_)
  ·refine wkT ?_
   exact⟨.refl _,by rw[Zdn,if_neg (by simpa using h1),if_pos h2];exact ZbP (by decide)⟩
  ·refine wkT ?_
   refine Zab (vs:=[.agg #[vi b.op,vi n,.slice Ap b.pts.length cp,.slice Ac b.cks.length cc]]) rfl (Zg3 (b:=fmBk b n) ⟨_,_,rfl,hp,hc⟩ hg hl hl2) ?_
   rintro v H5 ⟨hi5,w,rfl,hw⟩
   obtain⟨_,_,rfl,⟨_,_,rfl,_⟩,⟨_,_,rfl,_⟩⟩:=id hw
   refine wkT ?_
   have ek:Zdn b n=Zb6 (fmBk b n):=by rw[Zdn,if_neg (by simpa using h1),if_neg (by simpa using h2)]
   refine⟨hi5,?_⟩
   rw[ek]
   exact⟨_,rfl,hw⟩
def rdBk (b:Bk)(i:Nat)(xl xh:Int):Bk:={ b with pts:=b.pts.set i { ptAt b i with ml:=xl,mh:=xh } }
def Zco (b:Bk)(n xl xh:Int):Int:=
 if snag b≠0 then snag b else if ¬ (0<=n∧n<b.pts.length) then 6 else if ¬ (0<=xl∧xl<=xh∧xh<=99) then 1
 else if min (ptAt b n.toNat).mh xh<max (ptAt b n.toNat).ml xl then 9 else Zb6 (rdBk b n.toNat (max (ptAt b n.toNat).ml xl) (min (ptAt b n.toNat).mh xh))
theorem Zl4 {a b:List Value}{off n:Nat}{vs:List Value}(h:a.length=n):ZaO (a++b) (n+off) vs=a++ZaO b off vs:=by
 subst h
 unfold ZaO
 rw[List.take_append,List.drop_append,List.take_of_length_le (by omega),List.drop_eq_nil_of_le (by omega)]
 simp only[List.append_assoc,List.nil_append]
 congr 3
 ·congr 1;omega
 ·congr 1;omega
theorem Zgq (xl xh:Int):∀ (l:List SPt) (i:Nat) (hi:i<l.length) (rest:List Value),ZaO (encs l++rest) (i * 5) [vi xl,vi xh]=encs (l.set i { l.getD i ⟨0,0,0,0,0⟩ with ml:=xl,mh:=xh })++rest
 | [],i,hi,_=>by simp at hi
 | p :: l,0,hi,rest=>by simp[encs,Enc.enc,ZaO]
 | p :: l,i+1,hi,rest=>by
  have ih:=Zgq xl xh l i (by simpa using hi) rest
  have e:encs (p :: l)++rest=Enc.enc p++(encs l++rest):=by simp[encs]
  rw[e,show (i+1) * 5=5+i * 5 by omega,Zl4 (n:=5) (Enc.len p),ih]
  simp[encs]
theorem Zbr {H:Hp}{a:Addr}{cs ds:List Value}(h:CellsAt H a (cs++ds)):CellsAt H a cs:=by
 obtain⟨h1,o,p,h2,h3⟩:=h
 refine⟨h1,o,p,h2,fun j hj=>?_⟩
 rw[h3 j (by rw[List.length_append];omega),List.getElem?_append_left hj]
theorem add_zero (a:Addr):a.add 0=a:=by unfold Addr.add;simp
theorem t49:tiOf Tryz.prog 49=some (2,some (.agg #[vi 0,vi 0]),16):=by kernel_rfl
theorem Zo0 {bv:Value}{b:Bk}{n xl xh:Int}(hb:BkAt H bv b)(hg:Zba H)(hl:b.pts.length<=1000000)(hl2:b.cks.length<=1000000) :
  LL.Zai P 44 #[bv,vi n,.agg #[vi xl,vi xh]] H fun v H'=>Inc H H'∧BkS H' v (Zco b n xl xh) (rdBk b n.toNat (max (ptAt b n.toNat).ml xl) (min (ptAt b n.toNat).mh xh)):=by
 have hs:=Loud.loud (P:=P)
 have hb0:=hb
 obtain⟨pv,cv,rfl,hp,hc⟩:=hb
 refine IsN.m (isn c44) (args:=[.agg #[vi b.op,vi b.sl,pv,cv],vi n,.agg #[vi xl,vi xh]]) rfl ?_
 unfold n44
 obtain⟨Ap,cp,rfl,hp'⟩:=id hp
 obtain⟨Ac,cc,rfl,hc'⟩:=id hc
 refine wkT ?_
 refine Zab (vs:=[.agg #[vi b.op,vi b.sl,.slice Ap b.pts.length cp,.slice Ac b.cks.length cc]]) rfl (ZaU hb0 hg hl hl2 (hs _)) ?_
 rintro v _ ⟨rfl,rfl⟩
 refine wkT ?_
 refine wiT (fun h1=>?_) (fun h1=>?_)
 ·refine wkT ?_
  exact⟨.refl _,by rw[Zco,if_pos h1];exact ZbP h1⟩
 ·refine wkT ?_
  refine Zab (vs:=[.agg #[vi b.op,vi b.sl,.slice Ap b.pts.length cp,.slice Ac b.cks.length cc],vi n]) rfl (Zfi hb0 n hl (hs _)) ?_
  rintro v _ ⟨rfl,rfl⟩
  refine wkT ?_
  refine wiT (fun h2=>?_) (fun h2=>?_)
  ·refine wkT ?_
   exact⟨.refl _,by rw[Zco,if_neg (by simpa using h1),if_pos h2];exact ZbP (by decide)⟩
  ·refine wkT ?_
   refine Zab (vs:=[.agg #[vi xl,vi xh],vi 0,vi 99]) rfl (ZfW _ _ _ _ (hs _)) ?_
   rintro v _ ⟨rfl,rfl⟩
   refine wkT ?_
   refine wiT (fun h3=>?_) (fun h3=>?_)
   ·refine wkT ?_
    exact⟨.refl _,by rw[Zco,if_neg (by simpa using h1),if_neg (by simpa using h2),if_pos h3];exact ZbP (by decide)⟩
   ·obtain⟨i,rfl⟩:∃ i:Nat,n=i:=⟨n.toNat,by omega⟩
    have hi:i<b.pts.length:=by omega
    have ept:ptAt b i=b.pts[i]:=ZaG hi _
    have e2:¬ ¬ (0<=(i:Int)∧(i:Int)<b.pts.length):=by simpa using h2
    have e3:¬ ¬ (0<=xl∧xl<=xh∧xh<=99):=by simpa using h3
    have e1:¬ snag b≠0:=by simpa using h1
    have hrd:Zco b i xl xh=if min b.pts[i].mh xh<max b.pts[i].ml xl then 9 else Zb6 (rdBk b i (max b.pts[i].ml xl) (min b.pts[i].mh xh)):=by
     rw[Zco,if_neg e1,if_neg e2,if_neg e3,Int.toNat_natCast,ept]
    rw[hrd,Int.toNat_natCast,ept]
    refine wkT ?_
    refine Zar hp rfl rfl rfl (i:=i) hi fun a ha=>?_
    refine wkT ?_
    refine Zam (cs:=[vi b.pts[i].ml,vi b.pts[i].mh]) (hs _) rfl (by rw[add_zero];exact Zbr (ds:=[vi b.pts[i].bl,vi b.pts[i].bh,vi b.pts[i].w]) ha) rfl ?_
    refine wkT ?_
    refine ZjA rfl rfl ?_
    refine wkT ?_
    refine om_min rfl rfl ?_
    refine wkT ?_
    refine wiT (fun h4=>?_) (fun h4=>?_)
    ·refine wkT ?_
     exact⟨.refl _,by rw[if_pos h4];exact ZbP (by decide)⟩
    ·refine wkT ?_
     refine Zab (vs:=[.slice Ap b.pts.length cp]) rfl (Zha hp hl (hs _)) ?_
     rintro v H2 ⟨hi2,h⟩
     obtain⟨b2,o2⟩:=Zle h
     obtain⟨q0,⟨q1,q2,q3⟩ | ⟨r,cap,rest,rfl,rfl,q3,q4,q5⟩⟩:=o2.own
     ·omega
     have hr0:=o2.fresh r rfl
     refine wkT ?_
     refine ZcC rfl rfl hi ?_
     refine wkT ?_
     have hadd:((⟨r,0,none⟩:Addr).add (i * 5)).add 0=⟨r,i * 5,none⟩:=by rw[add_zero,Zd1 rfl,Nat.zero_add]
     rw[hadd]
     have hll:(encs b.pts).length=b.pts.length * 5:=ZbJ b.pts
     refine ZdS (v:=.agg #[vi (max b.pts[i].ml xl),vi (min b.pts[i].mh xh)]) (cs:=encs b.pts++rest) (tif t49) rfl rfl q3 rfl (by rw[List.length_append,hll];omega) rfl (hs _) ?_
     have hsp:=Zgq (max b.pts[i].ml xl) (min b.pts[i].mh xh) b.pts i hi rest
     rw[ZaG hi]at hsp
     have e5:ZaO (encs b.pts++rest) (i * 5) (Value.cells (.agg #[vi (max b.pts[i].ml xl),vi (min b.pts[i].mh xh)])).toList=encs (rdBk b i (max b.pts[i].ml xl) (min b.pts[i].mh xh)).pts++rest:=by
      rw[rdBk,ept];exact hsp
     rw[e5]
     have hlen:(rdBk b i (max b.pts[i].ml xl) (min b.pts[i].mh xh)).pts.length=b.pts.length:=by simp[rdBk]
     have hi3:Inc H (H2.ins r (.cells (encs (rdBk b i (max b.pts[i].ml xl) (min b.pts[i].mh xh)).pts++rest).toArray 59)):=Za5 hi2.inc hr0
     have hsl:SlAt (H2.ins r (.cells (encs (rdBk b i (max b.pts[i].ml xl) (min b.pts[i].mh xh)).pts++rest).toArray 59)) (.slice (some ⟨r,0,none⟩) b.pts.length cap) (rdBk b i (max b.pts[i].ml xl) (min b.pts[i].mh xh)).pts:=
      ⟨_,cap,by rw[hlen],fun _=>⟨_,rfl,Zbr Zaw⟩⟩
     have hcs:(rdBk b i (max b.pts[i].ml xl) (min b.pts[i].mh xh)).cks=b.cks:=rfl
     have hop:(rdBk b i (max b.pts[i].ml xl) (min b.pts[i].mh xh)).op=b.op:=rfl
     have hslp:(rdBk b i (max b.pts[i].ml xl) (min b.pts[i].mh xh)).sl=b.sl:=rfl
     generalize rdBk b i (max b.pts[i].ml xl) (min b.pts[i].mh xh)=b' at *
     generalize H2.ins r (.cells (encs b'.pts++rest).toArray 59)=H3 at *
     refine wkT ?_
     refine Zab (vs:=[.agg #[vi b.op,vi b.sl,.slice (some ⟨r,0,none⟩) b.pts.length cap,.slice Ac b.cks.length cc]]) rfl (Zg3 (b:=b') ⟨_,_,by rw[hop,hslp],hsl,by rw[hcs];exact hc.inc hi3⟩ (CellsAt.inc hg hi3) (by omega) (by rw[hcs];exact hl2)) ?_
     rintro v H5 ⟨hi5,w,rfl,hw⟩
     obtain⟨_,_,rfl,⟨_,_,rfl,_⟩,⟨_,_,rfl,_⟩⟩:=id hw
     refine wkT ?_
     refine⟨hi3.trans hi5,?_⟩
     rw[if_neg h4]
     exact⟨_,rfl,hw⟩
end
def cmpI (a b:Int):Int:=if a<b then -1 else if b<a then 1 else 0
def cmpL:List Int->List Int->Int
 | [],[]=>0
 | [],_ :: _=>-1
 | _ :: _,[]=>1
 | x :: a,y :: b=>if cmpI x y≠0 then cmpI x y else cmpL a b
def fewF (a b:List Int):Bool:=decide (a.length<b.length) || (decide (a.length=b.length) && decide (cmpL a b<0))
section
variable  {P:Prg}[Tz P][Loud P]{H:Hp}
set_option maxHeartbeats 1000000
theorem cmp_ok (m n:Int):LL.Zai P 199 #[vi m,vi n] H fun v H'=>H=H'∧v=vi (cmpI m n):=by
 refine IsN.m (isn c199) (args:=[vi m,vi n]) rfl ?_
 unfold n199
 refine wkT ?_
 refine Zab (vs:=[vi m]) rfl (ZiN m) ?_
 rintro v _ ⟨rfl,rfl⟩
 refine wkT ?_
 refine Zab (vs:=[vi n]) rfl (ZiN n) ?_
 rintro v _ ⟨rfl,rfl⟩
 refine wkT ?_
 refine wiT (fun h1=>?_) (fun h1=>?_)
 ·refine wkT ?_
  exact⟨rfl,by rw[cmpI,if_pos h1];rfl⟩
 ·refine wkT ?_
  refine wiT (fun h2=>?_) (fun h2=>?_)
  ·refine wkT ?_
   exact⟨rfl,by rw[cmpI,if_neg h1,if_pos h2];rfl⟩
  ·refine wkT ?_
   exact⟨rfl,by rw[cmpI,if_neg h1,if_neg h2];rfl⟩
theorem ZmU {u w:Value}{a b:List Int}(ha:SlAt H u a)(hb:SlAt H w b)(hl:a.length<=1000000)(hl2:b.length<=1000000)(hst:P.still H.gh=false):LL.Zai P 171 #[u,w] H fun v H'=>H=H'∧v=vi (cmpL a b):=by
 refine IsN.m (isn c171) (args:=[u,w]) rfl ?_
 unfold n171
 refine wkT ?_
 refine Zal ha rfl ?_
 refine wkT ?_
 refine ZaP a.length (fun j H'=>H=H'∧j<=b.length∧cmpL a b=cmpL (a.drop j) (b.drop j)) (fun j=>[(0,u),(1,w),(9,u),(10,vi a.length),(11,vi j)]) (fun _=>[]) ⟨rfl,Nat.zero_le _,rfl⟩ ⟨rfl,rfl,rfl,rfl,rfl,trivial⟩ trivial ?_
 rintro j _ hj ⟨rfl,hjb,hall⟩
 refine wkT ?_
 refine wiT (fun h1=>?_) (fun h1=>?_)
 ·have hj':j<a.length:=by omega
  rw[ZbL hj']at hall
  refine wkT ?_
  refine Zar ha rfl rfl rfl (i:=j) hj' fun p hp=>?_
  refine wkT ?_
  refine Zaf hst rfl hp ?_
  refine wkT ?_
  refine Zal hb rfl ?_
  refine wkT ?_
  refine wiT (fun h2=>?_) (fun h2=>?_)
  ·refine wkT ?_
   have:b.drop j=[]:=List.drop_eq_nil_of_le (by omega)
   rw[this]at hall
   exact⟨rfl,by rw[hall];rfl⟩
  ·have hj2:j<b.length:=by omega
   rw[ZbL hj2,cmpL]at hall
   refine wkT ?_
   refine Zar hb rfl rfl rfl (i:=j) hj2 fun q hq=>?_
   refine wkT ?_
   refine Zaf hst rfl hq ?_
   refine wkT ?_
   refine Zab (vs:=[vi a[j],vi b[j]]) rfl (cmp_ok _ _) ?_
   rintro v _ ⟨rfl,rfl⟩
   refine wkT ?_
   refine wiT (fun h3=>?_) (fun h3=>?_)
   ·refine wkT ?_
    rw[if_pos h3]at hall
    exact⟨rfl,by rw[hall];rfl⟩
   ·refine wkT ?_
    rw[if_neg (by simpa using h3)]at hall
    exact⟨⟨j+1,by omega⟩,slt (by omega),⟨rfl,hj2,hall⟩,⟨rfl,rfl,rfl,rfl,rfl,trivial⟩,trivial,rfl⟩
 ·have:j=a.length:=by omega
  subst this
  rw[List.drop_length]at hall
  refine wkT ?_
  refine Zal ha rfl ?_
  refine wkT ?_
  refine Zal hb rfl ?_
  refine wkT ?_
  refine wiT (fun h2=>?_) (fun h2=>?_)
  ·refine wkT ?_
   rw[ZbL (l:=b) (j:=a.length) (by omega)]at hall
   exact⟨rfl,by rw[hall];rfl⟩
  ·refine wkT ?_
   rw[List.drop_eq_nil_of_le (by omega)]at hall
   exact⟨rfl,by rw[hall];rfl⟩
theorem fewer_ok {u w:Value}{a b:List Int}(ha:SlAt H u a)(hb:SlAt H w b)(hl:a.length<=1000000)(hl2:b.length<=1000000)(hst:P.still H.gh=false):LL.Zai P 122 #[u,w] H fun v H'=>H=H'∧v=vb (fewF a b):=by
 refine IsN.m (isn c122) (args:=[u,w]) rfl ?_
 unfold n122
 refine wkT ?_
 refine Zal ha rfl ?_
 refine wkT ?_
 refine Zal hb rfl ?_
 refine wkT ?_
 refine wiT (fun h1=>?_) (fun h1=>?_)
 ·refine wkT ?_
  exact⟨rfl,by rw[fewF,decide_eq_true (show a.length<b.length by omega)];rfl⟩
 ·have h1':¬ a.length<b.length:=by omega
  refine wkT ?_
  refine Zal ha rfl ?_
  refine wkT ?_
  refine Zal hb rfl ?_
  refine wkT ?_
  refine wiT (fun h2=>?_) (fun h2=>?_)
  ·refine wkT ?_
   refine Zab (vs:=[u,w]) rfl (ZmU ha hb hl hl2 hst) ?_
   rintro v _ ⟨rfl,rfl⟩
   refine wkT ?_
   exact⟨rfl,by rw[fewF,decide_eq_false h1',decide_eq_true (show a.length=b.length by omega)];rfl⟩
  ·refine wkT ?_
   exact⟨rfl,by rw[fewF,decide_eq_false h1',decide_eq_false (show ¬ a.length=b.length by omega)];rfl⟩
structure LLAt (H:Hp)(vs:List Value)(ls:List (List Int)):Prop where
 len:vs.length=ls.length
 at_:∀ i (h:i<vs.length) (h':i<ls.length),SlAt H vs[i] ls[i]
theorem LLAt.nil (H:Hp):LLAt H [] []:=⟨rfl,fun i h=>by simp at h⟩
theorem LLAt.inc {H H':Hp}{vs:List Value}{ls:List (List Int)}(h:LLAt H vs ls)(hi:Inc H H'):LLAt H' vs ls:=⟨h.len,fun i a b=>(h.at_ i a b).inc hi⟩
theorem LLAt.snoc {H:Hp}{vs:List Value}{ls:List (List Int)}{v:Value}{l:List Int}(h:LLAt H vs ls)(hv:SlAt H v l):LLAt H (vs++[v]) (ls++[l]):=by
 refine⟨by simp[h.len],fun i a b=>?_⟩
 have:=h.len
 by_cases hi:i<vs.length
 ·rw[List.getElem_append_left hi,List.getElem_append_left (by omega)];exact h.at_ i hi (by omega)
 ·simp only[List.length_append,List.length_singleton]at a
  have e:i=vs.length:=by omega
  subst e
  rw[List.getElem_append_right (Nat.le_refl _),List.getElem_append_right (by omega)]
  simp[this]
  exact hv
theorem LLAt.drop {H:Hp}{vs:List Value}{ls:List (List Int)}(h:LLAt H vs ls)(n:Nat):LLAt H (vs.drop n) (ls.drop n):=by
 refine⟨by simp[h.len],fun i a b=>?_⟩
 rw[List.getElem_drop,List.getElem_drop]
 exact h.at_ _ _ _
theorem bestL_ok {f:Value}{v:Value}{fl:List Int}{vs:List Value}{ls:List (List Int)}(hf:SlAt H f fl)(hw:SlAt H v vs)(hls:LLAt H vs ls)(hl:vs.length<=1000000)(h1:fl.length<=1000000)(h2:∀ l∈ls,l.length<=1000000)(hst:P.still H.gh=false) :
  LL.Zai P 121 #[vf 122,f,v] H fun v H'=>H=H'∧SlAt H v (Zbe fewF fl ls):=by
 have hle:=hls.len
 have hbl:∀ j,j<=ls.length->(Zbe fewF fl (ls.take j)).length<=1000000:=by
  intro j
  induction j with
  | zero=>intro _;exact h1
  | succ j ih=>
   intro hj
   rw[Zd0 _ _ hj]
   split
   ·exact h2 _ (List.getElem_mem _)
   ·exact ih (by omega)
 refine IsN.m (isn c121) (args:=[vf 122,f,v]) rfl ?_
 unfold n121
 refine wkT ?_
 refine Zal hw rfl ?_
 refine wkT ?_
 refine Zax (α:=Value) vs.length (fun j w H'=>H=H'∧SlAt H w (Zbe fewF fl (ls.take j))) (fun j w=>[(0,vf 122),(1,w),(9,v),(10,vi vs.length),(11,vi j)]) (fun _ _=>[]) f ⟨rfl,hf⟩ ⟨rfl,rfl,rfl,rfl,rfl,trivial⟩ trivial ?_
 rintro j w _ hj ⟨rfl,hw1⟩
 refine wkT ?_
 refine wiT (fun h3=>?_) (fun h3=>?_)
 ·have hj':j<vs.length:=by omega
  have hb:=Zd0 fewF fl (l:=ls) (j:=j) (by omega)
  refine wkT ?_
  refine Zar hw rfl rfl rfl (i:=j) hj' fun a ha=>?_
  refine wkT ?_
  refine Zaf hst rfl ha ?_
  refine wkT ?_
  refine ZaX (vs:=[vs[j],w]) rfl rfl (Zdh (by kernel_rfl) (fewer_ok (hls.at_ j hj' (by omega)) hw1 (h2 _ (List.getElem_mem _)) (hbl j (by omega)) hst)) ?_
  rintro v _ ⟨rfl,rfl⟩
  refine wkT ?_
  refine wiT (fun h4=>?_) (fun h4=>?_)
  ·refine wkT ?_
   rw[if_pos h4]at hb
   exact⟨(⟨j+1,by omega⟩,vs[j]),slt (by omega),⟨rfl,by rw[hb];exact hls.at_ j hj' (by omega)⟩,⟨rfl,rfl,rfl,rfl,rfl,trivial⟩,trivial,rfl⟩
  ·refine wkT ?_
   rw[if_neg (by simp[h4])]at hb
   exact⟨(⟨j+1,by omega⟩,w),slt (by omega),⟨rfl,by rw[hb];exact hw1⟩,⟨rfl,rfl,rfl,rfl,rfl,trivial⟩,trivial,rfl⟩
 ·have:j=vs.length:=by omega
  subst this
  refine wkT ?_
  rw[List.take_of_length_le (by omega)]at hw1
  exact⟨rfl,hw1⟩
end
def esFrom {α:Type}(kv:α->Value):Nat->List (α×Int)->List MapEntry
 | _,[]=>[]
 | b,(k,v) :: r=>⟨kv k,vi v,b⟩ :: esFrom kv (b+1) r
def mapO {α:Type}(kv:α->Value)(m:List (α×Int)):Obj:=.map (esFrom kv 0 m).toArray m.length
def Zct {α:Type}[DecidableEq α]:List (α×Int)->α->Nat->Option (Nat×Value)
 | [],_,_=>none
 | (k,v) :: r,a,i=>if a=k then some (i,vi v) else Zct r a (i+1)
def getM {α:Type}[DecidableEq α]:List (α×Int)->α->Int
 | [],_=>0
 | (k,v) :: r,a=>if a=k then v else getM r a
def putM {α:Type}[DecidableEq α]:List (α×Int)->α->Int->List (α×Int)
 | [],a,w=>[(a,w)]
 | (k,v) :: r,a,w=>if a=k then (k,w) :: r else (k,v) :: putM r a w
section
variable  {α:Type}[DecidableEq α]{kv:α->Value}
theorem ZkK:∀ (b:Nat) (m:List (α×Int)) (a:α) (w:Int),esFrom kv b (m++[(a,w)])=esFrom kv b m++[⟨kv a,vi w,b+m.length⟩]
 | b,[],a,w=>by simp[esFrom]
 | b,(k,v) :: r,a,w=>by
  simp only[List.cons_append,esFrom,ZkK (b+1) r a w,List.length_cons]
  congr 4;omega
theorem ZlI:∀ (m:List (α×Int)) (a:α) (i:Nat),(match Zct m a i with | some (_,v)=>v | none=>vi 0)=vi (getM m a)
 | [],a,i=>rfl
 | (k,v) :: r,a,i=>by
  simp only[Zct,getM]
  by_cases h:a=k
  ·rw[if_pos h,if_pos h]
  ·rw[if_neg h,if_neg h];exact ZlI r a (i+1)
theorem ZgU:∀ (m:List (α×Int)) (a:α) (b i j:Nat) (v:Value) (w:Int),Zct m a i=some (j,v) ->
  i<=j∧∃ e,(esFrom kv b m)[j-i]? = some e∧e.key=kv a∧v=vi (getM m a)∧e.born=b+(j-i)∧(esFrom kv b m).modify (j-i) (fun e=>{ e with key:=kv a,val:=vi w })=esFrom kv b (putM m a w)∧(putM m a w).length=m.length
 | [],a,b,i,j,v,w,h=>by simp[Zct]at h
 | (k,u) :: r,a,b,i,j,v,w,h=>by
  rw[Zct]at h
  by_cases hk:a=k
  ·subst hk
   rw[if_pos rfl]at h
   simp only[Option.some.injEq,Prod.mk.injEq]at h
   obtain⟨rfl,rfl⟩:=h
   refine⟨Nat.le_refl _,_,by rw[Nat.sub_self,esFrom,List.getElem?_cons_zero],rfl,by rw[getM,if_pos rfl],by simp,?_,by rw[putM,if_pos rfl];rfl⟩
   rw[Nat.sub_self,putM,if_pos rfl,esFrom,esFrom];rfl
  ·rw[if_neg hk]at h
   obtain⟨h1,e,h2,h3,h4,h5,h6,h7⟩:=ZgU r a (b+1) (i+1) j v w h
   have e1:j-i=(j-(i+1))+1:=by omega
   refine⟨by omega,e,?_,h3,by rw[getM,if_neg hk];exact h4,by omega,?_,by rw[putM,if_neg hk,List.length_cons,List.length_cons,h7]⟩
   ·rw[e1,esFrom,List.getElem?_cons_succ];exact h2
   ·rw[e1,putM,if_neg hk,esFrom,esFrom,<-h6];rfl
theorem ZgV:∀ (m:List (α×Int)) (a:α) (i:Nat) (w:Int),Zct m a i=none->putM m a w=m++[(a,w)]∧getM m a=0
 | [],a,i,w,h=>⟨rfl,rfl⟩
 | (k,u) :: r,a,i,w,h=>by
  rw[Zct]at h
  split at h
  ·simp at h
  ·rename_i hk
   obtain⟨h1,h2⟩:=ZgV r a (i+1) w h
   exact⟨by rw[putM,if_neg hk,h1];rfl,by rw[getM,if_neg hk];exact h2⟩
end
structure KeyT {α:Type}[DecidableEq α](P:PQ)(T:TypeId)(kv:α->Value):Prop where
 chk:∀ (b:Bool) (a:α) {Q:Unit->Bool->Hp->Prop} {g:Bool} {H:Hp},Q () g H->wpL P (Instr.checkKey b 10000 T (kv a)) Q g H
 fnd:∀ (m:List (α×Int)) (a:α) {Q:Option (Nat×Value)->Bool->Hp->Prop} {g:Bool} {H:Hp},Q (Zct m a 0) g H->wpL P (Instr.findKey T (kv a) (esFrom kv 0 m)) Q g H
 same:∀ a:α,Instr.sameBits 10000 (kv a) (kv a)=true
section
variable  {P:Prg}{d:Option Nat}{next:NSt->Hp->Prop}{σ:NSt}{H:Hp}{x y z:Operand}{v:Value}{ty:TypeId}{α:Type}[DecidableEq α]{kv:α->Value}{T K E:TypeId}
theorem ZhH (hst:P.still H.gh=false)(h:∀ r,H r=none->next (σ.set d (.map (some r))) (H.ins r (mapO kv []))):(NOp.raw (.makeMap T none) ty).m P d next σ H:=by
 refine Zbh (by simp[Op.operands]) (s:=Instr.makeMap T none) (by simp[execOp,bare]) ?_
 simp only[Instr.makeMap,newObj,Zaa,Zac]
 exact⟨hst,fun r hr=>h r hr⟩
theorem Zez {m:List (α×Int)}{a:α}{r:Nat}{pm:Bool}{by_:Nat}(hu:P.toProgram.underlying T=some (.map K E))(hk:KeyT P.toPQ K kv)(ti:TI P.toProgram E 1 (vi 0) by_)(e1:σ.get x=some (.map (some r)))(e2:σ.get y=some (kv a))(hr:H r=some (mapO kv m,pm))(hst:P.still H.gh=false)
  (h:next (σ.set d (vi (getM m a))) H):(NOp.raw (.lookup T x y false) ty).m P d next σ H:=by
 obtain⟨inf,i1,i2,i3,i4⟩:=ti.ex
 refine Zbh (by simp[Op.operands,e1,e2]) (s:=Instr.lookup T (.map (some r)) (kv a) false) (by simp[execOp,bare,e1,e2]) ?_
 simp only[Instr.lookup,Zaa,Zad hu]
 refine⟨_,_,⟨hst,hr⟩,rfl,rfl,?_⟩
 rw[mapO,wpL]
 simp only[Zaa,Zac]
 refine hk.chk _ _ ?_
 refine hk.fnd m a ?_
 have:=ZlI m a 0
 cases hf:Zct m a 0 with
 | none=>
  rw[hf]at this
  simp only at this ⊢
  simp only[Zaa,Zb0 i1 i3,Zac,Bool.false_eq_true,if_false]
  rw[this];exact h
 | some p=>
  rw[hf]at this
  simp only at this ⊢
  simp only[Zaa,Zac,Bool.false_eq_true,if_false]
  rw[this];exact h
theorem mapUpd_w {m:List (α×Int)}{a:α}{r:Nat}{w:Int}(hu:P.toProgram.underlying T=some (.map K E))(hk:KeyT P.toPQ K kv)(hr:H r=some (mapO kv m,true))(hst:P.still H.gh=false){Q:Unit->Bool->Hp->Prop}{g:Bool}(h:Q () g (H.ins r (mapO kv (putM m a w)))) :
  wpL P.toPQ (Instr.mapUpdate T (.map (some r)) (kv a) (vi w)) Q g H:=by
 simp only[Instr.mapUpdate,Zaa,Zad hu]
 refine⟨_,_,⟨hst,hr⟩,rfl,rfl,?_⟩
 rw[mapO,wpL]
 simp only[Zaa,Zac]
 refine hk.chk _ _ ?_
 refine hk.fnd m a ?_
 cases hf:Zct m a 0 with
 | none=>
  obtain⟨h1,h2⟩:=ZgV m a 0 w hf
  simp only
  refine⟨_,⟨hst,hr⟩,rfl,rfl,rfl,?_⟩
  have:Obj.map ((esFrom kv 0 m).toArray.push { key:=kv a,val:=vi w,born:=m.length }) (m.length+1)=mapO kv (putM m a w):=by
   rw[h1,mapO,ZkK,Nat.zero_add]
   simp
  rw[this];exact h
 | some p=>
  obtain⟨j,u⟩:=p
  obtain⟨h1,e,h2,h3,h4,h5,h6,h7⟩:=ZgU (kv:=kv) m a 0 0 j u w hf
  rw[Nat.sub_zero]at h2 h6
  simp only[List.getElem?_toArray,h2,Option.map_some,Option.getD_some,Instr.keyThatStays,Zaa,h3,hk.same,if_true,Zac]
  refine⟨_,⟨hst,hr⟩,rfl,rfl,rfl,?_⟩
  have:Obj.map ((esFrom kv 0 m).toArray.modify j fun e=>{ e with key:=kv a,val:=vi w }) m.length=mapO kv (putM m a w):=by
   rw[mapO,h7,<-h6]
   simp
  rw[this];exact h
theorem ZnQ {m:List (α×Int)}{a:α}{r:Nat}{w:Int}(hu:P.toProgram.underlying T=some (.map K E))(hk:KeyT P.toPQ K kv)(e1:σ.get x=some (.map (some r)))(e2:σ.get y=some (kv a))(e3:σ.get z=some (vi w))(hr:H r=some (mapO kv m,true))(hst:P.still H.gh=false)
  (h:next (σ.set d undef) (H.ins r (mapO kv (putM m a w)))):(NOp.raw (.mapUpdate T x y z) ty).m P d next σ H:=by
 refine Zkv (by simp[Op.operands,e1,e2,e3]) (s:=Instr.mapUpdate T (.map (some r)) (kv a) (vi w)) (by simp[execOp,bare,e1,e2,e3]) ?_
 exact mapUpd_w hu hk hr hst h
end
theorem ZgW {k:Int}:∀ (m:List (Int×Int)) (b i:Nat),Instr.findNow (.int .i64) (vi k) (esFrom vi b m) i=some (Zct m k i)
 | [],b,i=>rfl
 | (k',v) :: r,b,i=>by
  simp only[esFrom,Instr.findNow,Instr.sameNow,if_true,Zct]
  by_cases h:k=k'
  ·subst h;simp
  ·rw[if_neg h,show (k == k')=false by simpa using h]
   exact ZgW r (b+1) (i+1)
theorem Zoj {P:PQ}{T:TypeId}(hu:P.toProgram.underlying T=some (.int .i64)):KeyT (α:=Int) P T vi where
 chk:=fun b a Q g H h=>by
  rw[show (10000:Nat)=9999+1 from rfl,Instr.checkKey]
  simp only[Zaa,Zad hu,Zac]
  exact h
 fnd:=fun m a Q g H h=>by
  simp only[Instr.findKey,Zaa,Zad hu,ZgW,Zac]
  exact h
 same:=fun a=>by simp[Instr.sameBits]
theorem Ziu {α β:Type}[Enc α][Enc β]{G H1 H2:Hp}{E E2:TypeId}{v w:Value}{l:List α}{l2:List β}{bb b2:Option Nat}(hG:Inc G H1)(h1:Own G H1 E v l bb)(hi:Inc H1 H2)(h2:Own H1 H2 E2 w l2 b2):∃ G',Inc G G'∧Inc G' H2∧Own G' H2 E v l bb∧SlAt G' w l2:=by
 have hi':Inc G H2:=hG.trans hi
 obtain⟨h0,⟨q1,q2,q3⟩ | ⟨r,cap,rest,q1,q2,q3,q4,q5⟩⟩:=h2.own
 ·have:l2=[]:=List.eq_nil_of_length_eq_zero q2
  subst this
  exact⟨G,.refl G,hi',h1.inc hi,by rw[q1];exact .nil G⟩
 ·have hr:=h2.fresh r q1
  have hG0:G r=none:=Zbd hG hr
  refine⟨G.ins r (.cells (encs l2++rest).toArray E2),Zah hG0,fun b x hb=>?_,⟨(h1.inc hi).own,fun r' e=>?_⟩,_,cap,q2,fun _=>⟨_,rfl,Zbr Zaw⟩⟩
  ·by_cases e:b=r
   ·subst e;rw[Hp.ins_same]at hb;obtain rfl:=Option.some.inj hb;exact q3
   ·rw[Hp.ins_other _ _ e]at hb;exact hi' b x hb
  ·have hne:r'≠r:=by
    rintro rfl
    obtain⟨_,⟨_,_,e3⟩ | ⟨r2,_,_,e3,_,e4,_⟩⟩:=h1.own
    ·rw[e3]at e;simp at e
    ·rw[e3]at e
     obtain rfl:=Option.some.inj e
     rw[hr]at e4;simp at e4
   rw[Hp.ins_other _ _ hne];exact h1.fresh r' e
def ZfK (m n:Nat):List Nat:=(List.range n).filter fun i=>m.testBit i
theorem ZgI (m n:Nat):ZfK m (n+1)=ZfK m n++if m.testBit n then [n] else []:=by
 rw[ZfK,List.range_succ,List.filter_append,ZfK]
 congr 1
 cases h:m.testBit n<;>simp[h]
def ckAt (b:Bk)(i:Nat):SCk:=b.cks.getD i ⟨0,0,0⟩
def Zcd (b:Bk)(m n:Nat):List SCk:=(ZfK m n).map (ckAt b)
def Zbu (m n:Nat):List Int:=(ZfK m n).map fun (i:Nat)=>(i:Int)
def Zdp (b:Bk)(m:Nat):Bk:={ b with cks:=Zcd b m b.cks.length }
def Zcc (b:Bk)(m:Nat):List Int:=Zbu m b.cks.length
theorem Zf6 (m n:Nat):(ZfK m n).length<=n:=by
 have:=List.length_filter_le (fun i=>m.testBit i) (List.range n)
 rwa [List.length_range]at this
theorem ZbB.alone {b:Bk}(v:ZbB b)(m:Nat):ZbB (Zdp b m) where
 op:=v.op
 sl:=v.sl
 n:=v.n
 pts:=v.pts
 ckn:=by
  have:=Zf6 m b.cks.length
  have:=v.ckn
  show ((ZfK m b.cks.length).map (ckAt b)).length<=3
  rw[List.length_map];omega
 cks:=fun c hc=>by
  obtain⟨i,hi,rfl⟩:=List.mem_map.1 hc
  have:i<b.cks.length:=by
   have:=(List.mem_filter.1 hi).1
   simpa using this
  rw[ckAt,ZaG this]
  exact v.cks _ (List.getElem_mem this)
theorem shr_v {m j:Nat}(hj:j<=64):bitV .shr .i64 (m:Int) (j:Int)=vi ((m / 2 ^ j:Nat):Int):=by
 show Value.int .i64 (Int.fdiv (m:Int) (2 ^ min (j:Int).toNat 64))=_
 have e:min (j:Int).toNat 64=j:=by omega
 rw[e]
 congr 1
 rw[Int.fdiv_eq_ediv_of_nonneg _ (by exact Int.le_of_lt (Int.pow_pos (by decide)))]
 simp
theorem and1_v {x:Nat}(hx:x<9223372036854775808):bitV .and .i64 (x:Int) 1=vi ((x % 2:Nat):Int):=by
 have h1:(BitVec.ofInt 64 (x:Nat)).toNat=x:=by simp[BitVec.toNat_ofInt];omega
 have h2:(BitVec.ofInt 64 (1:Int)).toNat=1:=rfl
 have h3:(BitVec.ofInt 64 (x:Nat) &&& BitVec.ofInt 64 1).toNat=x % 2:=by rw[BitVec.toNat_and,h1,h2,Nat.and_one_is_mod]
 show Value.int .i64 (IntKind.i64.wrap ((BitVec.ofInt 64 (x:Nat) &&& BitVec.ofInt 64 1).toNat:Nat))=_
 rw[h3,Zcf ⟨by omega,by omega⟩]
theorem bit_of (m j:Nat):(m / 2 ^ j % 2=1)↔m.testBit j=true:=by
 rw[Nat.testBit_eq_decide_div_mod_eq];simp
section
variable  {P:Prg}[Tz P][Loud P]{H:Hp}
set_option maxHeartbeats 2000000
theorem alone_ok {bv:Value}{b:Bk}{m:Nat}(hb:BkAt H bv b)(hl2:b.cks.length<=60)(hm:m<9223372036854775808) :
  LL.Zai P 120 #[bv,vi m] H fun v H'=>Inc H H'∧∃ w lv bb,v=.tuple #[w,lv]∧BkAt H' w (Zdp b m)∧Own H H' 3 lv (Zcc b m) bb:=by
 have hs:=Loud.loud (P:=P)
 have hb0:=hb
 obtain⟨pv,cv,rfl,hp,hc⟩:=hb
 refine IsN.m (isn c120) (args:=[.agg #[vi b.op,vi b.sl,pv,cv],vi m]) rfl ?_
 unfold n120
 obtain⟨Ap,cp,rfl,hp'⟩:=id hp
 obtain⟨Ac,cc,rfl,hc'⟩:=id hc
 refine wkT ?_
 refine Zax (α:=(Option Addr×Nat)×(Option Addr×Nat)×Option Nat×Option Nat) b.cks.length (fun j s H'=>Inc H H'∧Own H H' 3 (.slice s.1.1 (Zbu m j).length s.1.2) (Zbu m j) s.2.2.1∧Own H H' 51 (.slice s.2.1.1 (Zcd b m j).length s.2.1.2) (Zcd b m j) s.2.2.2∧Apart s.2.2.1 s.2.2.2)
  (fun j s=>[(1,vi m),(2,vi 0),(4,vi 0),(5,.slice none 0 0),(6,.slice s.1.1 (Zbu m j).length s.1.2),(7,vi 0),(15,.slice Ac b.cks.length cc),(16,vi b.cks.length),(17,vi j)])
  (fun j s=>[(2,[vi b.op,vi b.sl,.slice Ap b.pts.length cp,.slice Ac b.cks.length cc]),(4,[vi 0,vi 0,.slice none 0 0,.slice none 0 0]),(7,[vi b.op,vi b.sl,.slice Ap b.pts.length cp,.slice s.2.1.1 (Zcd b m j).length s.2.1.2])])
  ((none,0),(none,0),none,none) ⟨.refl H,.nil H H 3,.nil H H 51,.none _⟩ ⟨rfl,rfl,rfl,rfl,rfl,rfl,rfl,rfl,rfl,trivial⟩ ⟨rfl,rfl,rfl,trivial⟩ ?_
 rintro j ⟨⟨A6,c6⟩,⟨A7,c7⟩,b6,b7⟩ H1 hj ⟨hi1,o6,o7,hap⟩
 simp only at o6 o7 hap
 refine wkT ?_
 refine wiT (fun h1=>?_) (fun h1=>?_)
 ·have hj':j<b.cks.length:=by omega
  have hms:=ZgI m j
  refine wkT ?_
  refine Zar (hc.inc hi1) rfl rfl rfl (i:=j) hj' fun a ha=>?_
  refine wkT ?_
  refine Zam (hs _) rfl ha rfl ?_
  refine wkT ?_
  refine Zcq rfl rfl (.inl rfl) (by omega) (shr_v (by omega)) ?_
  refine wkT ?_
  refine ZgC (v:=vi ((m / 2 ^ j % 2:Nat):Int)) rfl rfl (.inl rfl) (and1_v (Nat.lt_of_le_of_lt (Nat.div_le_self _ _) hm)) ?_
  refine wkT ?_
  refine wiT (fun h2=>?_) (fun h2=>?_)
  ·have ht:m.testBit j=true:=(bit_of m j).1 (by omega)
   rw[ht,if_pos rfl]at hms
   have eN:Zbu m (j+1)=Zbu m j++[(j:Int)]:=by rw[Zbu,hms,List.map_append];rfl
   have eC:Zcd b m (j+1)=Zcd b m j++[b.cks[j]]:=by rw[Zcd,hms,List.map_append,List.map_singleton,ckAt,ZaG hj'];rfl
   have lN:(Zbu m j).length<=j:=by rw[Zbu,List.length_map];exact Zf6 m j
   have lC:(Zcd b m j).length<=j:=by rw[Zcd,List.length_map];exact Zf6 m j
   refine wkT ?_
   refine Zao (cs:=[vi (j:Int)]) (hs _) rfl fun r1 hr1=>?_
   refine kp_l hs ?_
   refine wkT ?_
   refine ZaR (l':=[(j:Int)]) (und u34) (und u34) (tif t3) rfl (by decide) (hi1.trans (Zah hr1)) (o6.ins hr1) Zc6 rfl (by simp;omega) (by omega) rfl rfl (hs _) fun v6' H2 b6' k1 k2 k3=>?_
   obtain⟨o7',hap'⟩:=(o6.ins hr1).other (o7.ins hr1) hap k3
   refine kp_l hs ?_
   refine wkT ?_
   refine Zao (cs:=[vi b.cks[j].p,vi b.cks[j].gl,vi b.cks[j].gh]) (hs _) rfl fun r2 hr2=>?_
   refine kp_l hs ?_
   refine wkT ?_
   refine ZaR (l':=[b.cks[j]]) (und u23) (und u23) (tif t51) rfl (by decide) (k1.trans (Zah hr2)) (o7'.ins hr2) Zig rfl (by simp;omega) (by omega) rfl rfl (hs _) fun v7' H3 b7' k4 k5 k6=>?_
   obtain⟨o6'',hap''⟩:=(o7'.ins hr2).other (k2.ins hr2) hap'.symm k6
   rw[<-eN]at o6''
   rw[<-eC]at k5
   obtain⟨A6',c6',rfl,_⟩:=id o6''.sl
   obtain⟨A7',c7',rfl,_⟩:=id k5.sl
   refine wkT ?_
   exact⟨(⟨j+1,by omega⟩,((A6',c6'),(A7',c7'),b6',b7')),slt (by omega),⟨k4,o6'',k5,hap''.symm⟩,⟨rfl,rfl,rfl,rfl,rfl,rfl,rfl,rfl,rfl,trivial⟩,⟨rfl,rfl,rfl,trivial⟩,rfl⟩
  ·have ht:m.testBit j=false:=by
    cases hh:m.testBit j with
    | false=>rfl
    | true=>have:=(bit_of m j).2 hh;omega
   rw[ht]at hms
   simp only[Bool.false_eq_true,if_false,List.append_nil]at hms
   have eN:Zbu m (j+1)=Zbu m j:=by rw[Zbu,hms];rfl
   have eC:Zcd b m (j+1)=Zcd b m j:=by rw[Zcd,hms];rfl
   rw[<-eN]at o6
   rw[<-eC]at o7
   refine wkT ?_
   exact⟨(⟨j+1,by omega⟩,((A6,c6),(A7,c7),b6,b7)),slt (by omega),⟨hi1,o6,o7,hap⟩,⟨rfl,rfl,rfl,rfl,by rw[eN];rfl,rfl,rfl,rfl,rfl,trivial⟩,⟨rfl,rfl,by rw[eC];rfl,trivial⟩,rfl⟩
 ·have:j=b.cks.length:=by omega
  subst this
  refine wkT ?_
  exact⟨hi1,_,_,_,rfl,⟨_,_,rfl,hp.inc hi1,o7.sl⟩,o6⟩
end
end Go.Proofs
end
