import Derived.Test.YtmfealhfgccmfaaGreatDoorP25
import Derived.Test.YtmfealhfgccmfaaGreatDoorP27
import Derived.Test.YtmfealhfgccmfaaGreatDoorP29
import Derived.Test.YtmfealhfgccmfaaGreatDoorP35
import Derived.Test.YtmfealhfgccmfaaGreatDoorP36
set_option linter.all false
set_option maxHeartbeats 8000000
set_option maxRecDepth 40000
def WA{G:Prop}(h:G:=by
  refine OJ (λk5=>?_) (λk5=>?_)
  ·refine Y ?_;exact⟨yQ,by rw[decide_eq_true (show((m1:Nat):Int)<=m2 by omega)];rfl⟩
  refine OJ (λk6=>?_) (λk6=>?_)
  ·refine Y ?_;exact⟨yQ,by rw[decide_eq_true (show((m1:Nat):Int)<=m2 by omega)];rfl⟩
  exact absurd (e5.resolve_left k5) k6):G:=h
theorem DY{G:Prop}(h:G:=by obtain⟨A,c,rfl,_⟩:=id h3.sl;exact⟨h1,A,c,rfl,h3.sl⟩):G:=h
open Go Go.LL
namespace Go.Proofs
section
variable{lt lp L:List Int}{z a c:Int}{n:Nat}
section
variable{H H':Hp}{v:Value}{b:Sb}
def exW{W:List Wk}(f:Yk b lt lp=0)(g:Vn b (YQ lt) lp=W)(h:fI H H'/\∃w,v=.tuple #[w,vi (Yk b lt lp)]/\((Yk b lt lp≠0/\w=.slice none 0 0)\/(Yk b lt lp=0/\∃e,gL H H' 140 w (Vn b (YQ lt) lp) e))):fI H H'/\∃A c,v=.tuple #[.slice A W.length c,vi 0]/\dF H' (.slice A W.length c) W:=by
 obtain⟨h1,w,rfl,⟨j,_⟩ | ⟨_,e,h3⟩⟩:=h
 ·exact absurd f j
 rw[f];rw[g]at h3;exact DY
def Zms(f:Yk b lt lp=0)(g:PR b (YQ lt) lp=L)(h:fI H H'/\∃w e,v=.tuple #[w,vi (Yk b lt lp)]/\gL H H' 3 w (if Yk b lt lp=0 then PR b (YQ lt) lp else[]) e):fI H H'/\∃A c,v=.tuple #[.slice A L.length c,vi 0]/\dF H' (.slice A L.length c) L:=by obtain⟨h1,w,e,rfl,h3⟩:=h;rw[qAa f,g]at h3;rw[f];exact DY
def exE(e:Yk b lt lp=0)(f:(Zw b (YQ lt) lp).2=z)(h:fI H H'/\v=.tuple #[vi (if Yk b lt lp=0 then(Zw b (YQ lt) lp).2 else 0),vi (Yk b lt lp)]):fI H H'/\v=.tuple #[vi z,vi 0]:=by rw[qAa e,e,f]at h;exact h
def Zmt(ok:gY b)(e:(Za b).length=n)(h:fI H H'/\v=.tuple #[vi (if ZN b=0 then(Za b).length else 0),vi (ZN b)]):fI H H'/\v=.tuple #[vi n,vi 0]:=by have f:=O9 ok;rw[qAa f,f,e]at h;exact h
def exT{n:Int}(f:Zp b (YG b n)=0)(g:UE (sB (Yu b n.toNat))=L)(h:fI H H'/\∃w,v=.tuple #[w,vi (Zp b (YG b n))]/\((Zp b (YG b n)≠0/\w=.slice none 0 0)\/(Zp b (YG b n)=0/\∃e,gL H H' 3 w (UE (sB (Yu b n.toNat))) e))):fI H H'/\∃A c,v=.tuple #[.slice A L.length c,vi 0]/\dF H' (.slice A L.length c) L:=by
 obtain⟨h1,w,rfl,⟨j,_⟩ | ⟨_,e,h3⟩⟩:=h
 ·exact absurd f j
 rw[f];rw[g]at h3;exact DY
def ZvU{l:List Int}(e:Zp b (Yo b l)=0)(f:UZ b l=(a,c))(h:fI H H'/\v=.tuple #[.agg #[vi (UZ b l).1,vi (UZ b l).2],vi (Zp b (Yo b l))]):fI H H'/\v=.tuple #[.agg #[vi a,vi c],vi 0]:=by rw[e,f]at h;exact h
def ZfL{x y:Int}(e:y=0)(f:x=z)(h:fI H H'/\v=.tuple #[vi x,vi y]):fI H H'/\v=.tuple #[vi z,vi 0]:=by rw[e,f]at h;exact h
def ZvT(e:Zp b 0=0)(f:(lE b (Za b)).length=n)(h:fI H H'/\v=.tuple #[vi (if Zp b 0=0 then(lE b (Za b)).length else 0),vi (Zp b 0)]):fI H H'/\v=.tuple #[vi n,vi 0]:=by rw[qAa e,e,f]at h;exact h
def ZvS{p:List Int}(o:Zp b 0=0)(g:(lE b (Za b)).length=n+1)(q:YF b (Za b)=p)(j:(jA b (Za b) p).lo=a/\(jA b (Za b) p).hi=c)
  (h:fI H H'/\((¬ (Zp b 0=0/\lE b (Za b)≠[])/\v=.tuple #[.slice none 0 0,.agg #[vi 0,vi 0],vb false,vi (Zp b 0)]) \/
   (Zp b 0=0/\lE b (Za b)≠[]/\∃A c,dF H' (.slice A (YF b (Za b)).length c) (YF b (Za b))/\(YF b (Za b)).length<=c/\v=.tuple #[.slice A (YF b (Za b)).length c,.agg #[vi (jA b (Za b) (YF b (Za b))).lo,vi (jA b (Za b) (YF b (Za b))).hi],vb true,vi 0]))) :
  fI H H'/\∃A k,v=.tuple #[.slice A p.length k,.agg #[vi a,vi c],vb true,vi 0]/\dF H' (.slice A p.length k) p:=by
 obtain⟨r,⟨s,_⟩ | ⟨_,_,A,k,m,_,f⟩⟩:=h
 ·exact absurd ⟨o,λe=>by rw[e]at g;simp at g⟩ s
 rw[q]at m f;rw[j.1,j.2]at f;exact⟨r,A,k,f,m⟩
def ZvV(e:Zp b 0=0)(f:Ud b (Za b)=n+1)(h:fI H H'/\v=.tuple #[vi (if Zp b 0=0 then Ud b (Za b)else 0:Nat),vb (decide (Zp b 0=0/\Ud b (Za b)≠0)),vi (Zp b 0)]):fI H H'/\v=.tuple #[vi (n+1:Nat),vb true,vi 0]:=by rw[decide_eq_true ⟨e,O⟩,qAa e,e,f]at h;exact h
def ZvX(e:Zp b 0=0)(f:Vk (Za b) b.pk.length=(a,c))(h:fI H H'/\v=.tuple #[vi (if Zp b 0=0 then(Vk (Za b) b.pk.length).1 else 0),vi (if Zp b 0=0 then(Vk (Za b) b.pk.length).2 else 0),vi (Zp b 0)]):fI H H'/\v=.tuple #[vi a,vi c,vi 0]:=by rw[qAa e,qAa e,e,f]at h;exact h
def ZvR{n lo hi:Int}(j:Vy b n lo hi=0) (h:fI H H'/\((Vy b n lo hi≠0/\v=.tuple #[OS,vi (Vy b n lo hi)])\/(Vy b n lo hi=0/\gY b/\(0<=n/\n<b.pk.length) /\
   ∃f e,f=VH b n.toNat (max (gA b n.toNat).lo lo) (min (gA b n.toNat).hi hi)/\gY f/\iP f e/\Zq H' e/\v=.tuple #[e.v,vi 0]))):fI H H'/\∃e,gY e/\(Za e).length=(Za (VH b n.toNat (max (gA b n.toNat).lo lo) (min (gA b n.toNat).hi hi))).length/\Zq H' e/\v=.tuple #[e.v,vi 0]:=by
 obtain⟨k,⟨m,_⟩ | ⟨_,_,_,f,e,rfl,o,g,p,q⟩⟩:=h
 ·exact absurd j m
 exact⟨k,e,g.ok o,by rw[g.boats],p,q⟩
def ZvW(ok:gY b)(e:V3 b=L)(h:fI H H'/\∃A c,v=.tuple #[.slice A (V3 b).length c,vi (ZN b)]/\(V3 b).length<=c/\dF H' (.slice A (V3 b).length c) (V3 b)):fI H H'/\∃A c,v=.tuple #[.slice A L.length c,vi 0]/\dF H' (.slice A L.length c) L:=by obtain⟨j,A,c,f,_,g⟩:=h;rw[e]at f g;rw[O9 ok]at f;exact⟨j,A,c,f,g⟩
end
def Pp(A e f g:Option Addr)(j:Nat)(X Y h:Option Addr)(k:Nat):Sb:=Ks (Ks (jS A e f) ⟨X,[0],1,5,5⟩ g j) ⟨Y,[1],1,2,2⟩ h k
def ZgS(A e f g:Option Addr)(k:Nat)(X Y j:Option Addr)(m:Nat):gY (Pp A e f g k X Y j m):=by have h:ZN (Pp A e f g k X Y j m)=0:=U;exact Ob h
def sxC(A e f g:Option Addr)(j:Nat)(X Y h:Option Addr)(k:Nat):V3 (Pp A e f g j X Y h k)=[1]:=U
section
variable{P:fP}[Tz P][Loud P]{H:Hp}
def No{u w:Value}{a:List Int}(g:dF H u a)(hb:dF H w a)(f:a.length<=1000000):LL.Zb P 66 #[u,w] H λv e=>H=e/\v=vb true:=
 LL.Zb.mono (Zpu g hb f f) λv e h=>⟨h.1,h.2.trans (by rw[decide_eq_true rfl])⟩
def Zpx:LL.Zb P 48 #[] H λv s=>fI H s/\∃f g h,v=(jS (some ⟨f,0,none⟩) (some ⟨g,0,none⟩) (some ⟨h,0,none⟩)).v/\Zq s (jS (some ⟨f,0,none⟩) (some ⟨g,0,none⟩) (some ⟨h,0,none⟩)):=by refine aU.m (fO ZyB) rfl ?_;unfold ZkJ;refine Y ?_;refine Zo (P1 4) (Y ?_);refine Zo (MW 2 3) (Y ?_);refine Zo (P1 3) (Y ?_);refine Z4 (cs:=Zd LZ) (OL _) rfl λg p=>?_;have B:dF (H.ins g (.cells (Zd LZ).toArray 236)) (.slice (some ⟨g,0,none⟩) 3 3) LZ:=Z3 (l:=LZ);have w:fI H (H.ins g (.cells (Zd LZ).toArray 236)):=Zt p;generalize H.ins g (.cells (Zd LZ).toArray 236)=j at *;refine Y ?_;refine Z4 (cs:=Zd [(0:Int),1]) (OL _) rfl λf o=>?_;have s0:dF (j.ins f (.cells (Zd [(0:Int),1]).toArray 3)) (.slice (some ⟨f,0,none⟩) 2 2) [(0:Int),1]:=Z3 (l:=[(0:Int),1]);have t:fI j (j.ins f (.cells (Zd [(0:Int),1]).toArray 3)):=Zt o;generalize j.ins f (.cells (Zd [(0:Int),1]).toArray 3)=k at *;refine Y ?_;refine Zo (MW 6 7) (Y ?_);refine Z4 (cs:=Zd (L0 (some ⟨f,0,none⟩))) (OL _) rfl λh q=>?_;have C:dF (k.ins h (.cells (Zd (L0 (some ⟨f,0,none⟩))).toArray 137)) (.slice (some ⟨h,0,none⟩) 1 1) (L0 (some ⟨f,0,none⟩)):=Z3 (l:=L0 (some ⟨f,0,none⟩));have r:fI k (k.ins h (.cells (Zd (L0 (some ⟨f,0,none⟩))).toArray 137)):=Zt q;generalize k.ins h (.cells (Zd (L0 (some ⟨f,0,none⟩))).toArray 137)=D at *;refine Y ?_;refine⟨(w.trans t).trans r,f,g,h,rfl,(B.inc t).inc r,C,λx u=>?_,DO _,DO _⟩;obtain rfl:=iO.1 u;exact s0.inc r
def mL(DT:P=PP)(k:Yb H)(j:aM H ⟨3,0,none⟩ [vf 407]):LL.Zb P 10 #[] H λv o=>fI H o/\v=vb true:=by refine aU.m (fO Zy0) rfl ?_;unfold Zk8;refine Y ?_;refine Zg Zpx ?_;rintro v E ⟨i0,r0,r1,r2,rfl,f⟩;replace k:Yb E:=aM.inc k i0;replace j:aM E ⟨3,0,none⟩ [vf 407]:=aM.inc j i0;have ii:=i0;replace i0:fI E E:=.refl E;generalize(some (⟨r0,0,none⟩:Addr))=r at *;generalize(some (⟨r1,0,none⟩:Addr))=s at *;generalize(some (⟨r2,0,none⟩:Addr))=t at *;unfold Sb.v jS;refine Y ?_;refine Z4 (cs:=Zd [(0:Int),1,2]) (OL _) rfl λra hra=>?_;have j1:fI E (E.ins ra (.cells (Zd [(0:Int),1,2]).toArray 3)):=Zt hra;have q:dF (E.ins ra (.cells (Zd [(0:Int),1,2]).toArray 3)) (.slice (some ⟨ra,0,none⟩) 3 3) [(0:Int),1,2]:=Z3 (l:=[(0:Int),1,2]);generalize E.ins ra (.cells (Zd [(0:Int),1,2]).toArray 3)=H1 at *;have i1:=i0.trans j1;refine Y ?_;refine Z4 (cs:=Zd [(2:Int),1,0]) (OL _) rfl λrb Sg=>?_;have j2:fI H1 (H1.ins rb (.cells (Zd [(2:Int),1,0]).toArray 3)):=Zt Sg;have It:dF (H1.ins rb (.cells (Zd [(2:Int),1,0]).toArray 3)) (.slice (some ⟨rb,0,none⟩) 3 3) [(2:Int),1,0]:=Z3 (l:=[(2:Int),1,0]);generalize H1.ins rb (.cells (Zd [(2:Int),1,0]).toArray 3)=H2 at *;have i2:=i1.trans j2;replace f:=f.inc i2;replace k:=aM.inc k i2;replace j:=aM.inc j i2;replace ii:=ii.trans i2;replace q:=q.inc j2;replace i2:fI H2 H2:=.refl H2;refine Y ?_;refine Z4 (cs:=Zd [(4:Int),2,3]) (OL _) rfl λrc hrc=>?_;have j3:fI H2 (H2.ins rc (.cells (Zd [(4:Int),2,3]).toArray 3)):=Zt hrc;have src:dF (H2.ins rc (.cells (Zd [(4:Int),2,3]).toArray 3)) (.slice (some ⟨rc,0,none⟩) 3 3) [(4:Int),2,3]:=Z3 (l:=[(4:Int),2,3]);generalize H2.ins rc (.cells (Zd [(4:Int),2,3]).toArray 3)=H3 at *;have i3:=i2.trans j3;refine Y ?_;refine Zg (LL.Zb.mono (Zng (b:=(jS r s t)) (lt:=[(4:Int),2,3]) (lp:=[(0:Int),1,2]) (f.inc i3) (Vf _ _ _).oI (aM.inc k i3) (aM.inc j i3) src (q.inc i3) (by decide) (by decide) (by decide)) λv o h=>exW (W:=[⟨0,4,4,6⟩,⟨0,2,2,4⟩,⟨2,5,6,7⟩]) (Pq _ _ _) (sx3 _ _ _) h) ?_;rintro v H4 ⟨j4,A4,c4,rfl,KB⟩;have i4:=i3.trans j4;refine Y ?_;refine Z4 (cs:=Zd [(4:Int),2,3]) (OL _) rfl λrd Se=>?_;have j5:fI H4 (H4.ins rd (.cells (Zd [(4:Int),2,3]).toArray 3)):=Zt Se;have srd:dF (H4.ins rd (.cells (Zd [(4:Int),2,3]).toArray 3)) (.slice (some ⟨rd,0,none⟩) 3 3) [(4:Int),2,3]:=Z3 (l:=[(4:Int),2,3]);generalize H4.ins rd (.cells (Zd [(4:Int),2,3]).toArray 3)=H5 at *;have i5:=i4.trans j5;refine Y ?_;refine Zg (LL.Zb.mono (ZnC (b:=(jS r s t)) (lt:=[(4:Int),2,3]) (lp:=[(0:Int),1,2]) (f.inc i5) (Vf _ _ _).oI (aM.inc k i5) (aM.inc j i5) srd (q.inc i5) (by decide) (by decide) (by decide)) λv o h=>Zms (L:=[]) (Pq _ _ _) (sx5 _ _ _) h) ?_;rintro v H6 ⟨j6,A6,c6,rfl,sl6⟩;have i6:=i5.trans j6;refine Y ?_;refine Z4 (cs:=Zd [(4:Int),2,3]) (OL _) rfl λre NX=>?_;have j7:fI H6 (H6.ins re (.cells (Zd [(4:Int),2,3]).toArray 3)):=Zt NX;have sre:dF (H6.ins re (.cells (Zd [(4:Int),2,3]).toArray 3)) (.slice (some ⟨re,0,none⟩) 3 3) [(4:Int),2,3]:=Z3 (l:=[(4:Int),2,3]);generalize H6.ins re (.cells (Zd [(4:Int),2,3]).toArray 3)=H7 at *;have i7:=i6.trans j7;refine Y ?_;refine Zg (LL.Zb.mono (Zz2 (b:=(jS r s t)) (lt:=[(4:Int),2,3]) (lp:=[(0:Int),1,2]) (f.inc i7) (Vf _ _ _).oI (aM.inc k i7) (aM.inc j i7) sre (q.inc i7) (by decide) (by decide) (by decide)) λv o h=>exE (z:=7) (Pq _ _ _) (sx7 _ _ _) h) ?_;rintro v H8 ⟨j8,rfl⟩;have i8:=i7.trans j8;refine Y ?_;refine Z4 (cs:=Zd [(4:Int),3,3]) (OL _) rfl λrf hrf=>?_;have j9:fI H8 (H8.ins rf (.cells (Zd [(4:Int),3,3]).toArray 3)):=Zt hrf;have srf:dF (H8.ins rf (.cells (Zd [(4:Int),3,3]).toArray 3)) (.slice (some ⟨rf,0,none⟩) 3 3) [(4:Int),3,3]:=Z3 (l:=[(4:Int),3,3]);generalize H8.ins rf (.cells (Zd [(4:Int),3,3]).toArray 3)=H9 at *;have i9:=i8.trans j9;refine Y ?_;refine Zg (LL.Zb.mono (Zng (b:=(jS r s t)) (lt:=[(4:Int),3,3]) (lp:=[(2:Int),1,0]) (f.inc i9) (Vf _ _ _).oI (aM.inc k i9) (aM.inc j i9) srf (It.inc i9) (by decide) (by decide) (by decide)) λv o h=>exW (W:=[⟨3,7,7,9⟩,⟨0,3,4,6⟩,⟨0,3,3,4⟩]) (sx2 _ _ _) (sx4 _ _ _) h) ?_;rintro v F ⟨j10,A10,Xo,rfl,Qf⟩;have i10:=i9.trans j10;refine Y ?_;refine Z4 (cs:=Zd [(4:Int),3,3]) (OL _) rfl λrg hrg=>?_;have j11:fI F (F.ins rg (.cells (Zd [(4:Int),3,3]).toArray 3)):=Zt hrg;have srg:dF (F.ins rg (.cells (Zd [(4:Int),3,3]).toArray 3)) (.slice (some ⟨rg,0,none⟩) 3 3) [(4:Int),3,3]:=Z3 (l:=[(4:Int),3,3]);generalize F.ins rg (.cells (Zd [(4:Int),3,3]).toArray 3)=H11 at *;have w:=i10.trans j11;refine Y ?_;refine Zg (LL.Zb.mono (ZnC (b:=(jS r s t)) (lt:=[(4:Int),3,3]) (lp:=[(2:Int),1,0]) (f.inc w) (Vf _ _ _).oI (aM.inc k w) (aM.inc j w) srg (It.inc w) (by decide) (by decide) (by decide)) λv o h=>Zms (L:=[(1:Int)]) (sx2 _ _ _) (sx6 _ _ _) h) ?_;rintro v Pa ⟨j12,A12,c12,rfl,Qd⟩;have p9:=w.trans j12;refine Y ?_;refine Zg (LL.Zb.mono (Zgc (b:=(jS r s t)) (f.inc p9) (Vf _ _ _).oI (aM.inc k p9)) λv o h=>Zmt (n:=2) (Vf _ _ _) (by rw[Zoo];rfl) h) ?_;rintro v H13 ⟨j13,rfl⟩;have yQ:=p9.trans j13;refine Y ?_;refine Zg (LL.Zb.mono (Znl (b:=(jS r s t)) (n:=1) (f.inc yQ) (Vf _ _ _).oI (aM.inc k yQ)) λv o h=>exT (L:=[(2:Int),3]) (Aj _ _ _).2.2.2 (sx8 _ _ _) h) ?_;rintro v H14 ⟨j14,A16,c16,rfl,Qc⟩;have B:=yQ.trans j14;refine Y ?_;refine Zg (LL.Zb.mono (Zny (b:=(jS r s t)) (l:=[(0:Int),1,2]) (f.inc B) (Vf _ _ _).oI (aM.inc k B) (aM.inc j B) (q.inc B) (by decide) (by decide)) λv o h=>ZvU (a:=7) (c:=8) (Aj _ _ _).1 (Zov _ _ _) h) ?_;rintro v H15 ⟨j15,rfl⟩;have C:=B.trans j15;refine Y ?_;refine Zg (LL.Zb.mono (Zgh (b:=(jS r s t)) (l:=[(0:Int),1,2]) (f.inc C) (Vf _ _ _).oI (aM.inc k C) (aM.inc j C) (q.inc C) (by decide) (by decide)) λv o h=>ZfL (z:=1) (Aj _ _ _).1 (Zeu _ _ _).1 h) ?_;rintro v H16 ⟨j16,rfl⟩;have i16:=C.trans j16;refine Y ?_;refine Zg (LL.Zb.mono (Zns (b:=(jS r s t)) (l:=[(2:Int),1,0]) (n:=1) (f.inc i16) (Vf _ _ _).oI (aM.inc k i16) (aM.inc j i16) (It.inc i16) (by decide) (by decide)) λv o h=>ZfL (z:=0) (Aj _ _ _).2.2.1 (Zeu _ _ _).2.2 h) ?_;rintro v H17 ⟨j17,rfl⟩;have D:=i16.trans j17;refine Y ?_;refine Zg (LL.Zb.mono (Zgh (b:=(jS r s t)) (l:=[(2:Int),1,0]) (f.inc D) (Vf _ _ _).oI (aM.inc k D) (aM.inc j D) (It.inc D) (by decide) (by decide)) λv o h=>ZfL (z:=0) (Aj _ _ _).2.1 (Zeu _ _ _).2.1 h) ?_;rintro v H18 ⟨j18,rfl⟩;have R:=D.trans j18;refine Y ?_;refine Zg (LL.Zb.mono (Zno DT (b:=(jS r s t)) (f.inc R) (Vf _ _ _).oI (aM.inc k R) (aM.inc j R)) λv o h=>ZvT (n:=3) (Iq _ _ _) (ZgT _ _ _) h) ?_;rintro v H19 ⟨j19,rfl⟩;have S:=R.trans j19;refine Y ?_;refine Zg (LL.Zb.mono (ZzK DT (b:=(jS r s t)) (f.inc S) (Vf _ _ _).oI (aM.inc k S) (aM.inc j S)) λv o h=>ZvS (p:=[(0:Int),1,2]) (a:=7) (c:=8) (Iq _ _ _) (ZgT _ _ _) (Zou _ _ _) (Zot _ _ _) h) ?_;rintro v H20 ⟨j20,A28,c28,rfl,Qa⟩;have T:=S.trans j20;refine Y ?_;refine Zg (LL.Zb.mono (ZzZ DT (b:=(jS r s t)) (f.inc T) (Vf _ _ _).oI (aM.inc k T) (aM.inc j T)) λv o h=>ZvV (Iq _ _ _) (Zos _ _ _) h) ?_;rintro v H21 ⟨j21,rfl⟩;have Rj:=T.trans j21;refine Y ?_;refine Zg (LL.Zb.mono (ZAc (b:=(jS r s t)) (f.inc Rj) (Vf _ _ _).oI (aM.inc k Rj)) λv o h=>ZvX (a:=1) (c:=1) (Iq _ _ _) (Zor _ _ _) h) ?_;rintro v H22 ⟨j22,rfl⟩;have Ri:=Rj.trans j22;refine Y ?_;refine Zo (P1 3) ?_;refine Zz OL (Y ?_);refine Zg (LL.Zb.mono (ZzF (b:=(jS r s t)) (n:=1) (lo:=3) (hi:=3) (f.inc Ri) (Vf _ _ _).oI (aM.inc k Ri)) λv o h=>ZvR (Zoq _ _ _) h) ?_;rintro v H23 ⟨j23,b1,ok1,DQ,Wm,rfl⟩;have i23:=Ri.trans j23;refine Zz OL ?_;unfold Sb.v;refine Y ?_;refine Zg (LL.Zb.mono (Zgc Wm ok1.oI (aM.inc k i23)) λv o h=>Zmt (n:=1) ok1 (DQ.trans (Zop _ _ _)) h) ?_;rintro v G ⟨j24,rfl⟩;have i24:=i23.trans j24;refine Y ?_;refine Zo (P1 5) ?_;refine Zz OL (Y ?_);refine Z4 (cs:=Zd [(0:Int)]) (OL _) rfl λrh hrh=>?_;have j25:fI G (G.ins rh (.cells (Zd [(0:Int)]).toArray 3)):=Zt hrh;have srh:dF (G.ins rh (.cells (Zd [(0:Int)]).toArray 3)) (.slice (some ⟨rh,0,none⟩) 1 1) [(0:Int)]:=Z3 (l:=[(0:Int)]);generalize G.ins rh (.cells (Zd [(0:Int)]).toArray 3)=H25 at *;have i25:=i24.trans j25;refine Zz OL (Y ?_);refine Zg (LL.Zb.mono (Zhk (b:=(jS r s t)) (x:=⟨some ⟨rh,0,none⟩,[0],1,5,5⟩) (f.inc i25) (by show 1<=1000000;omega) srh) λv o h=>h) ?_;rintro v I ⟨j26,B1,d1,rfl,hbn⟩;have i26:=i25.trans j26;refine Y ?_;refine Zo (P1 2) (Y ?_);refine Z4 (cs:=Zd [(1:Int)]) (OL _) rfl λrk R4=>?_;have Rh:fI I (I.ins rk (.cells (Zd [(1:Int)]).toArray 3)):=Zt R4;have srk:dF (I.ins rk (.cells (Zd [(1:Int)]).toArray 3)) (.slice (some ⟨rk,0,none⟩) 1 1) [(1:Int)]:=Z3 (l:=[(1:Int)]);generalize I.ins rk (.cells (Zd [(1:Int)]).toArray 3)=H27 at *;have i27:=i26.trans Rh;refine Zz OL (Y ?_);refine Zg (LL.Zb.mono (Zhk (x:=⟨some ⟨rk,0,none⟩,[1],1,2,2⟩) (hbn.inc Rh) (by show 2<=1000000;omega) srk) λv o h=>h) ?_;rintro v H28 ⟨j28,B2,d2,rfl,hbm⟩;have i28:=i27.trans j28;refine Y ?_;refine Zg (LL.Zb.mono (Zpy hbm (ZgS _ _ _ _ _ _ _ _ _).oI (aM.inc k i28)) λv o h=>ZvW (L:=[(1:Int)]) (ZgS _ _ _ _ _ _ _ _ _) (sxC _ _ _ _ _ _ _ _ _) h) ?_;rintro v u ⟨j29,A42,c42,rfl,Pz⟩;have i29:=i28.trans j29;refine Y ?_;have WY:fI u u:=.refl _;have WZ:=((((((((j21.trans j22).trans j23).trans j24).trans j25).trans j26).trans Rh).trans j28).trans j29).trans WY;have W0:=(((((j15.trans j16).trans j17).trans j18).trans j19).trans j20).trans WZ;have W3:=(j13.trans j14).trans W0;have W4:=(j11.trans j12).trans W3;have c4z:=(((((j5.trans j6).trans j7).trans j8).trans j9).trans j10).trans W4;have e29:fI u u:=.refl _;refine Z4 (cs:=Zd ([⟨0,4,4,6⟩,⟨0,2,2,4⟩,⟨2,5,6,7⟩]:List Wk)) (OL _) rfl λq4 hq4=>?_;have j30:fI u (u.ins q4 (.cells (Zd ([⟨0,4,4,6⟩,⟨0,2,2,4⟩,⟨2,5,6,7⟩]:List Wk)).toArray 140)):=Zt hq4;have sq4:dF (u.ins q4 (.cells (Zd ([⟨0,4,4,6⟩,⟨0,2,2,4⟩,⟨2,5,6,7⟩]:List Wk)).toArray 140)) (.slice (some ⟨q4,0,none⟩) 3 3) ([⟨0,4,4,6⟩,⟨0,2,2,4⟩,⟨2,5,6,7⟩]:List Wk):=Z3 (l:=([⟨0,4,4,6⟩,⟨0,2,2,4⟩,⟨2,5,6,7⟩]:List Wk));generalize u.ins q4 (.cells (Zd ([⟨0,4,4,6⟩,⟨0,2,2,4⟩,⟨2,5,6,7⟩]:List Wk)).toArray 140)=J at *;have i30:=i29.trans j30;have e30:=e29.trans j30;refine Y ?_;refine Zo (Znk (KB.inc (c4z.trans e30)) sq4 (by decide)) (Y ?_);refine Z4 (cs:=Zd ([⟨3,7,7,9⟩,⟨0,3,4,6⟩,⟨0,3,3,4⟩]:List Wk)) (OL _) rfl λV Sn=>?_;have j31:fI J (J.ins V (.cells (Zd ([⟨3,7,7,9⟩,⟨0,3,4,6⟩,⟨0,3,3,4⟩]:List Wk)).toArray 140)):=Zt Sn;have Py:dF (J.ins V (.cells (Zd ([⟨3,7,7,9⟩,⟨0,3,4,6⟩,⟨0,3,3,4⟩]:List Wk)).toArray 140)) (.slice (some ⟨V,0,none⟩) 3 3) ([⟨3,7,7,9⟩,⟨0,3,4,6⟩,⟨0,3,3,4⟩]:List Wk):=Z3 (l:=([⟨3,7,7,9⟩,⟨0,3,4,6⟩,⟨0,3,3,4⟩]:List Wk));generalize J.ins V (.cells (Zd ([⟨3,7,7,9⟩,⟨0,3,4,6⟩,⟨0,3,3,4⟩]:List Wk)).toArray 140)=K at *;have i31:=i30.trans j31;have e31:=e30.trans j31;refine Y ?_;refine Zo (Znk (Qf.inc (W4.trans e31)) Py (by decide)) (Y ?_);refine Z4 (cs:=Zd [(1:Int)]) (OL _) rfl λX KO=>?_;have j32:fI K (K.ins X (.cells (Zd [(1:Int)]).toArray 3)):=Zt KO;have Px:dF (K.ins X (.cells (Zd [(1:Int)]).toArray 3)) (.slice (some ⟨X,0,none⟩) 1 1) [(1:Int)]:=Z3 (l:=[(1:Int)]);generalize K.ins X (.cells (Zd [(1:Int)]).toArray 3)=M at *;have i32:=i31.trans j32;have e32:=e31.trans j32;refine Y ?_;refine Zo (No (Qd.inc (W3.trans e32)) Px (by decide)) (Y ?_);refine Z4 (cs:=Zd [(2:Int),3]) (OL _) rfl λZ Sl=>?_;have j33:fI M (M.ins Z (.cells (Zd [(2:Int),3]).toArray 3)):=Zt Sl;have Pw:dF (M.ins Z (.cells (Zd [(2:Int),3]).toArray 3)) (.slice (some ⟨Z,0,none⟩) 2 2) [(2:Int),3]:=Z3 (l:=[(2:Int),3]);generalize M.ins Z (.cells (Zd [(2:Int),3]).toArray 3)=N at *;have U:=i32.trans j33;have e33:=e32.trans j33;refine Zz OL (Y ?_);refine Zo (No (Qc.inc (W0.trans e33)) Pw (by decide)) (Y ?_);refine Zo (MW 7 8) ?_;refine Zz OL (Y ?_);refine CB (b:=decide ((7:Int)=7/\(8:Int)=8)) (xs:=#[vi 7,vi 8]) (ys:=#[vi 7,vi 8]) Kc (λQ g H hq=>WT (.inr C7) Q hq) rfl rfl (Y ?_);refine ZB 0 (q.inc U) (by decide) λa0 ha0=>Y ?_;refine Z8 (v:=vi 0) ha0 (Y ?_);refine ZB 1 (q.inc U) (by decide) λa1 ha1=>Y ?_;refine Z8 (v:=vi 1) ha1 (Y ?_);refine ZB 2 (q.inc U) (by decide) λa2 ha2=>Y ?_;refine Z8 (v:=vi 2) ha2 (Y ?_);refine Z4 (cs:=Zd [(0:Int),1,2]) (OL _) rfl λIx Sk=>?_;have j34:fI N (N.ins Ix (.cells (Zd [(0:Int),1,2]).toArray 3)):=Zt Sk;have Pv:dF (N.ins Ix (.cells (Zd [(0:Int),1,2]).toArray 3)) (.slice (some ⟨Ix,0,none⟩) 3 3) [(0:Int),1,2]:=Z3 (l:=[(0:Int),1,2]);generalize N.ins Ix (.cells (Zd [(0:Int),1,2]).toArray 3)=O at *;have i34:=U.trans j34;have e34:=e33.trans j34;refine Zz OL (Y ?_);refine Zo (No (Qa.inc (WZ.trans e34)) Pv (by decide)) (Y ?_);refine Zo (MW 7 8) ?_;refine Zz OL (Y ?_);refine Zip (b:=decide ((7:Int)=7/\(8:Int)=8)) (xs:=#[vi 7,vi 8]) (ys:=#[vi 7,vi 8]) Kc (λQ g H hq=>WT (.inr C7) Q hq) rfl rfl (Y ?_);refine Z4 (cs:=Zd [(1:Int)]) (OL _) rfl λIw Sj=>?_;have j35:fI O (O.ins Iw (.cells (Zd [(1:Int)]).toArray 3)):=Zt Sj;have Pu:dF (O.ins Iw (.cells (Zd [(1:Int)]).toArray 3)) (.slice (some ⟨Iw,0,none⟩) 1 1) [(1:Int)]:=Z3 (l:=[(1:Int)]);generalize O.ins Iw (.cells (Zd [(1:Int)]).toArray 3)=H35 at *;have Jc:=i34.trans j35;have e35:=e34.trans j35;refine Zz OL (Y ?_);refine Zo (No (Pz.inc (WY.trans e35)) Pu (by decide)) (Y ?_);exact⟨ii.trans Jc,rfl⟩
end
end
section
variable{l:List Int}{i c:Nat}{A:Option Addr}
def BS(b:Sb)(i:Nat):List Int:=UE (sB (Yu b i))
def WU(b:Sb)(l:List Int):Int:=if Za b=[]then 0 else(jA b (Za b) l).lo
def WV(b:Sb)(l:List Int):Int:=if Za b=[]then 0 else(jA b (Za b) l).hi
def Xf(b:Sb)(l:List Int):Int:=if Za b=[]then 0 else Z6 (jA b (Za b) l).good (Za b).length
def Rt(b:Sb)(l:List Int)(i:Nat):Int:=if Za b=[]then 0 else Z6 ((jA b (Za b) l).cold.get i) (Za b).length
def Q9(b:Sb):Nat:=if Za b=[]then 0 else(lE b (Za b)).length
def Mm{b:Sb}{α:Type}(x y:α):(if bS b=0 then x else y)=if Za b=[]then y else x:=by
 by_cases h:Za b=[]
 ·rw[iF (λe=>EG.1 e h),qAa h]
 rw[qAa (EG.2 h),iF h]
def Ze4{b:Sb}(ok:gY b)(e:O1 b.pk.length l):Zp b (Yo b l)=bS b:=by rw[ZhV e,Kx ok]
section
variable{P:fP}[Tz P][Loud P]{H:Hp}{b:Sb}
def ZnH(ok:gY b)(hb:Zq H b)(f:Yb H):LL.Zb P 52 #[b.v] H λv e=>fI H e/\v=.tuple #[vi (Za b).length,vi 0]:=
 LL.Zb.mono (Zgc hb ok.oI f) λv e h=>by rw[qAa (O9 ok),O9 ok]at h;exact h
def Zni(ok:gY b)(hi:i<b.pk.length)(hb:Zq H b)(k:Yb H):LL.Zb P 53 #[b.v,vi i] H λv f=>fI H f/\∃A c,v=.tuple #[.slice A (BS b i).length c,vi (bS b)]/\dF f (.slice A (BS b i).length c) (BS b i):=
 LL.Zb.mono (Znl hb ok.oI k) λv f h=>by
  rw[ZhW hi,Kx ok,qAL]at h;obtain⟨h1,w,rfl,⟨g,rfl⟩ | ⟨_,m,h3⟩⟩:=h
  ·have j:Za b=[]:=qAb λe=>g (Zf4 e);have e:BS b i=[]:=by rw[BS,Yu,j];rfl
   rw[e];exact⟨h1,none,0,rfl,.nil _⟩
  exact DY
def Znx(ok:gY b)(g:O1 b.pk.length l)(o:dF H (.slice A l.length c) l)(k:l.length<=c)(hb:Zq H b)(m:Yb H)(f:aM H ⟨3,0,none⟩ [vf 407]) :
  LL.Zb P 54 #[b.v,.slice A l.length c] H λv j=>fI H j/\v=.tuple #[.agg #[vi (WU b l),vi (WV b l)],vi (bS b)]:=
 LL.Zb.mono (Zny hb ok.oI m f o k (by have:=g.len;have:=ok.n;omega)) λv j h=>by
  have e:UZ b l=(WU b l,WV b l):=by rw[UZ,Ze4 ok g,Mm,WU,WV];split<;>rfl
  rw[e,Ze4 ok g]at h;exact h
def Znv(ok:gY b)(g:O1 b.pk.length l)(m:dF H (.slice A l.length c) l)(j:l.length<=c)(hb:Zq H b)(k:Yb H)(e:aM H ⟨3,0,none⟩ [vf 407]) :
  LL.Zb P 55 #[b.v,.slice A l.length c] H λv f=>fI H f/\v=.tuple #[vi (Xf b l),vi (bS b)]:=
 LL.Zb.mono (Zgh hb ok.oI k e m j (by have:=g.len;have:=ok.n;omega)) λv f h=>by rw[PW,Ze4 ok g,Mm]at h;exact h
def Znr(ok:gY b)(hi:i<b.pk.length)(j:O1 b.pk.length l)(o:dF H (.slice A l.length c) l)(k:l.length<=c)(hb:Zq H b)(m:Yb H)(f:aM H ⟨3,0,none⟩ [vf 407]) :
  LL.Zb P 56 #[b.v,.slice A l.length c,vi i] H λv g=>fI H g/\v=.tuple #[vi (Rt b l i),vi (bS b)]:=
 LL.Zb.mono (Zns hb ok.oI m f o k (by have:=j.len;have:=ok.n;omega)) λv g h=>by
  have e:Uz b l i=0:=by rw[Uz,ZhV j,iF (by decide),ZhW hi]
  rw[XN,e,Kx ok,Mm,qAL]at h;exact h
def Znn(f:P=PP)(ok:gY b)(hb:Zq H b)(k:Yb H)(g:aM H ⟨3,0,none⟩ [vf 407]) :
  LL.Zb P 57 #[b.v] H λv j=>fI H j/\v=.tuple #[vi (Q9 b:Nat),vi (bS b)]:=
 LL.Zb.mono (Zno f hb ok.oI k g) λv j h=>by
  rw[Kx ok,Mm]at h;have e:((Q9 b:Nat):Int)=if Za b=[]then 0 else((lE b (Za b)).length:Int):=by unfold Q9;split<;>rfl
  rw[e];exact h
end
def tC:Sb:=⟨0,0,0,[],[],none,0,none,0⟩
end
section
variable{b:Sb}
section
variable{P:fP}[Tz P][Loud P]{H:Hp}
def Zva{u w:Value}{l m:List Int}(k:dF H u l)(r:dF H w m)(h:∀z∈l,z∈m)(q:l.length<=1000000)(g:m.length<=1000000):LL.Zb P 236 #[u,w] H λv f=>H=f/\v=vb true:=by
 refine aU.m (fO ZyJ) rfl ?_;unfold ZkR;refine Y ?_;refine ZC l.length (λj f=>H=f) (λj=>[(0,u),(1,w),(5,vi j)]) (λ_=>[]) rfl V trivial ?_;rintro j _ s rfl;refine Y ?_;refine YH k rfl ?_;refine OJ (λo=>?_) (λo=>?_)
 ·have e:j<l.length:=O;refine Y ?_;refine ZB j k e λa p=>Y ?_;refine Z8 p (Y ?_);refine Zo (Znt r g) ?_;rw[decide_eq_true (h _ (iN e))];refine Y ?_;exact ZlU (I:=λj f=>H=f) (env:=λj=>[(0,u),(1,w),(5,vi j)]) (box:=λ_=>[]) e rfl V trivial rfl
 refine Y ?_;exact⟨rfl,rfl⟩
end
theorem pF(ok:gY b):Y9 b=bS b:=by
 rw[Y9,O9 ok,iF (by decide),bS,Vp];cases h:Za b with
 | nil=>rfl
 | cons x l=>rfl
def ZgG{i:Nat}{z:Int}:z∈BS b i↔∃t∈Za b,t.get i=z:=by rw[BS,UE,(ZmL (Kn _) _ (DO _)).2.1,qAh,(HO _).mem_iff,Zod]
def ZgH(ok:gY b)(i:Nat):(BS b i).length<=1000000:=by
 have e:=ZmN (sB (Yu b i)) (sB (Yu b i)).length;have f:(sB (Yu b i)).length=(Za b).length:=by rw[(HO _).length_eq,Yu,qAd]
 have g:=Uw ok;show(iY (sB (Yu b i)) (sB (Yu b i)).length).length<=1000000;omega
section
variable{P:fP}[Tz P][Loud P]{H:Hp}
def Zy6(N:P=PP){o:Sb}{k m:Int}(ok:gY b)(h:gY o)(L:uC b o)(f:Za o≠[])(hb:Zq H b)(M:Zq H o)(hk:0<=k/\k<256)(hm:0<=m/\m<256)(s:Yb H)(g:aM H ⟨3,0,none⟩ [vf 407]) :
  LL.Zb P 160 #[b.v,o.v,.int .u8 m,.int .u8 k] H λv H'=>fI H H'/\v=vb true:=by
 have hn:=ok.n;have r:=L.pos f;refine aU.m (fO ZyE) rfl ?_;unfold ZkM Sb.v;refine Y ?_;refine VC (fU Tryz.underlying5) (fU Tryz.underlying3) rfl ?_;rw[V8 (show rY k from⟨O,O⟩)];refine Y ?_;refine HH rfl rfl O ?_;obtain⟨i,hi,ei⟩:=PB (n:=b.pk.length) hk.1 O;rw[ei];have Q:i<o.pk.length:=by rw[L.n];exact hi
 refine Y ?_;refine Zg (ZzQ hn hm) ?_;rintro v H1 ⟨i1,A,c,p,hpF,rfl,K,hl⟩;have U:=ZsI hn hpF;have F:O1 o.pk.length p:=by rw[L.n];exact U
 refine Zz OL (Y ?_);refine Zg (ZnH ok (hb.inc i1) (aM.inc s i1)) ?_;rintro v H2 ⟨j2,rfl⟩;have i2:=i1.trans j2;refine Y ?_;refine Zg (ZnH h (M.inc i2) (aM.inc s i2)) ?_;rintro v H3 ⟨j3,rfl⟩;have i3:=i2.trans j3;refine Y ?_;refine Zg (Zni ok hi (hb.inc i3) (aM.inc s i3)) ?_;rintro v H4 ⟨j4,A2,c2,rfl,t2⟩;have i4:=i3.trans j4;refine Y ?_;refine Zg (Zni h Q (M.inc i4) (aM.inc s i4)) ?_;rintro v H5 ⟨j5,A3,c3,rfl,t3⟩;have V:=i4.trans j5;have D:=hl.inc (((j2.trans j3).trans j4).trans j5);refine Y ?_;refine Zg (Znx ok U D K (hb.inc V) (aM.inc s V) (aM.inc g V)) ?_;rintro v H6 ⟨S,rfl⟩;have W:=V.trans S;refine Y ?_;refine Zg (Znx h F (D.inc S) K (M.inc W) (aM.inc s W) (aM.inc g W)) ?_;rintro v H7 ⟨j7,rfl⟩;have X:=W.trans j7;have E:=D.inc (S.trans j7);refine Y ?_;refine Zg (Znv ok U E K (hb.inc X) (aM.inc s X) (aM.inc g X)) ?_;rintro v H8 ⟨T,rfl⟩;have i8:=X.trans T;refine Y ?_;refine Zg (Znv h F (E.inc T) K (M.inc i8) (aM.inc s i8) (aM.inc g i8)) ?_;rintro v H9 ⟨j9,rfl⟩;have Z:=i8.trans j9;have R:=E.inc (T.trans j9);refine Y ?_;refine Zg (Znr ok hi U R K (hb.inc Z) (aM.inc s Z) (aM.inc g Z)) ?_;rintro v H10 ⟨C,rfl⟩;have u:=Z.trans C;refine Y ?_;refine Zg (Znr h Q F (R.inc C) K (M.inc u) (aM.inc s u) (aM.inc g u)) ?_;rintro v H11 ⟨G,rfl⟩;have w:=u.trans G;refine Y ?_;refine Zg (Znn N ok (hb.inc w) (aM.inc s w) (aM.inc g w)) ?_;rintro v Pa ⟨I,rfl⟩;have B:=w.trans I;refine Y ?_;refine Zg (Znn N h (M.inc B) (aM.inc s B) (aM.inc g B)) ?_;rintro v H13 ⟨J,rfl⟩;have yQ:=B.trans J;have t2:=t2.inc ((((((((j5.trans S).trans j7).trans T).trans j9).trans C).trans G).trans I).trans J);have t3:=t3.inc (((((((S.trans j7).trans T).trans j9).trans C).trans G).trans I).trans J);rw[Zf4 r,Zf4 f];have e1:=L.len hn.2;have e2:=qBY.2 f;have e3:=L.ends f p;have e4:=L.good f p;have e5:=L.cold f p (i:=i) O;have e6:=L.plans f;have ti:∀z∈BS o i,z∈BS b i:=λz hz=>by obtain⟨t,ht,e⟩:=ZgG.1 hz;exact ZgG.2 ⟨t,L.sub t ht,e⟩
 rw[show WU b p=(jA b (Za b) p).lo from iF r,show WV b p=(jA b (Za b) p).hi from iF r,show WU o p=(jA o (Za o) p).lo from iF f,show WV o p=(jA o (Za o) p).hi from iF f,
  show Xf b p=Z6 (jA b (Za b) p).good (Za b).length from iF r,show Xf o p=Z6 (jA o (Za o) p).good (Za o).length from iF f,
  show Rt b p i=Z6 ((jA b (Za b) p).cold.get i) (Za b).length from iF r,show Rt o p i=Z6 ((jA o (Za o) p).cold.get i) (Za o).length from iF f,
  show Q9 b=(lE b (Za b)).length from iF r,show Q9 o=(lE o (Za o)).length from iF f]
 generalize Z6 (jA b (Za b) p).good (Za b).length=g1 at *;generalize Z6 (jA o (Za o) p).good (Za o).length=g2 at *;generalize Z6 ((jA b (Za b) p).cold.get i) (Za b).length=h1 at *;generalize Z6 ((jA o (Za o) p).cold.get i) (Za o).length=h2 at *;generalize(lE b (Za b)).length=m1 at *;generalize(lE o (Za o)).length=m2 at *;generalize(jA b (Za b) p).lo=a1 at *;generalize(jA b (Za b) p).hi=a2 at *;generalize(jA o (Za o) p).lo=a3 at *;generalize(jA o (Za o) p).hi=a4 at *;refine Y ?_;refine Zo (O2 _ _ _) ?_;rw[decide_eq_true (show(1:Int)<=(Za o).length/\((Za o).length:Int)<=(Za b).length by omega)];refine Y ?_;refine Zo (Zva t3 t2 ti (ZgH h i) (ZgH ok i)) ?_;refine OJ (λk1=>?_) (λk1=>?_)
 ·refine OJ (λk2=>?_) (λk2=>?_)
  ·refine OJ (λk3=>?_) (λk3=>?_)
   ·exact WA
   refine OJ (λk4=>?_) (λk4=>?_)
   ·exact WA
   exact absurd (e4.resolve_left k3) k4
  exact absurd e3.2 k2
 exact absurd e3.1 k1
end
end
variable{x y lo hi:Int}{b:Sb}
def OT(x lo hi:Int):Int:=min (max x lo) hi
def jE(h:x<=y):OT x lo hi<=OT y lo hi:=by unfold OT;omega
def jJ(h:lo<=hi):lo<=OT x lo hi/\OT x lo hi<=hi:=by unfold OT;omega
def gY.sm(ok:gY b):b.Sm:=⟨by have:=ok.n;omega,by have:=ok.nn;omega,λp e=>by obtain⟨i,hi,rfl⟩:=qAz.1 e;have h:=(ok.nm i hi).1;rw[tJ,qAc,qAN]at h;omega,λx f=>by have h:=(ok.nt x f).2.1;have:=Zm9 (lo:=0) (k:=b.pk.length) h.1 (λz g=>by have:=h.2 z g;omega);have:=ok.n;omega⟩
section
variable{P:fP}[Tz P][Loud P]{H:Hp}
def Zpw(hb:Zq H b):LL.Zb P 84 #[b.v] H λv t=>H=t/\∃g,v=vb g/\(g=false↔b.Sm):=by
 refine aU.m (fO Zm2) rfl ?_;unfold Zfo Sb.v;refine OJ (λD=>?_) (λD=>?_)
 ·refine Y ?_;exact⟨rfl,true,rfl,λh=>by simp at h,λh=>by have:=h.pk;omega⟩
 refine OJ (λE=>?_) (λE=>?_)
 ·refine Y ?_;exact⟨rfl,true,rfl,λh=>by simp at h,λh=>by have:=h.nt;omega⟩
 refine Y ?_;refine ZC b.pk.length (λj t=>H=t/\∀p∈b.pk.take j,p.nm.size<=100) (λj=>[(1,vi 0),(2,vb false),(3,vi j)]) (λ_=>[(1,b.cs)]) ⟨rfl,λp C=>by simp at C⟩ V V ?_;rintro j _ I ⟨rfl,f⟩;refine OJ (λF=>?_) (λF=>?_)
 ·have r:j<b.pk.length:=O;refine Y ?_;refine ZB j hb.pk r λa w=>?_;have pK:=Mv (p:=λp:Pk=>p.nm.size<=100) r f;have B:b.pk[j]∈b.pk:=iN r;generalize b.pk[j]=x at *;refine Y ?_;refine Zh (v:=.string x.nm) (OL _) rfl (by rw[add_zero];exact YN (cs:=[.string x.nm]) (ds:=[vi x.lo,vi x.hi,vi x.jG,vi x.jN]) w) (Y ?_);refine yY rfl ?_;refine OJ (λu=>?_) (λu=>?_)
  ·refine Y ?_;exact⟨rfl,true,rfl,λh=>by simp at h,λh=>by have:=h.nm x B;omega⟩
  exact HA
 have:j=b.pk.length:=O;subst this;rw[qAh]at f;refine Y ?_;refine ZC b.nt.length (λj t=>H=t/\∀p∈b.nt.take j,p.ps.length<=20) (λj=>[(1,vi 0),(2,vb false),(4,vi j)]) (λ_=>[(1,b.cs)]) ⟨rfl,λp C=>by simp at C⟩ V V ?_;rintro k _ J ⟨rfl,e⟩;refine OJ (λu=>?_) (λu=>?_)
 ·have s:k<b.nt.length:=O;refine Y ?_;refine ZB k hb.nt s λa w=>?_;have pK:=Mv (p:=λp:Nt=>p.ps.length<=20) s e;have B:b.nt[k]∈b.nt:=iN s;generalize b.nt[k]=x at *;refine Y ?_;refine Zh (v:=.slice x.A x.ps.length x.c) (OL _) rfl (by rw[add_zero];exact YN (cs:=[.slice x.A x.ps.length x.c]) (ds:=[vi x.lo,vi x.hi]) w) ?_;refine OJ (λG=>?_) (λG=>?_)
  ·refine Y ?_;exact⟨rfl,true,rfl,λh=>by simp at h,λh=>by have:=h.ps x B;omega⟩
  exact G8
 have:k=b.nt.length:=O;subst this;rw[qAh]at e;refine Y ?_;exact⟨rfl,false,rfl,λ_=>⟨O,O,f,e⟩,λ_=>rfl⟩
def Zhq(ok:gY b)(hb:Zq H b):LL.Zb P 18 #[b.v] H λv e=>H=e/\v=vb true:=by refine aU.m (fO Zm1) rfl ?_;unfold Zfn Sb.v;refine Y ?_;refine Zg (Zpw hb) ?_;rintro v _ ⟨rfl,g,rfl,f⟩;obtain rfl:=f.2 ok.sm;refine Y ?_;refine Zo (ZnG hb ok.oI) ?_;rw[O9 ok];refine Y ?_;exact⟨rfl,rfl⟩
def m7:LL.Zb P 82 #[.agg #[vi x,vi y],vi lo,vi hi] H λv e=>H=e/\v=.agg #[vi (OT x lo hi),vi (OT y lo hi)]:=by refine aU.m (fO ZwJ) rfl ?_;unfold ZiR;refine Y ?_;refine yG rfl rfl (Y ?_);refine EH rfl rfl (Y ?_);refine yG rfl rfl (Y ?_);refine EH rfl rfl (Y ?_);refine Zo (MW _ _) (Y ?_);exact⟨rfl,rfl⟩
def mQ{j g f e:Int}(h:j<=f/\f<=e/\e<=g):LL.Zb P 80 #[.agg #[vi j,vi g],.agg #[vi f,vi e]] H λv k=>H=k/\v=vb true:=by refine aU.m (fO ZwK) rfl ?_;unfold ZiS;refine Y ?_;rw[decide_eq_true h.1];refine Y ?_;rw[decide_eq_true h.2.1];refine Y ?_;rw[decide_eq_true h.2.2];refine Y ?_;exact⟨rfl,rfl⟩
def qI(g:P=PP){c d:Sb}{s t k m:Int}(h:(t=9/\(s=9\/s=0))\/(s=0/\t=0/\gY c/\gY d/\c.pk.length=b.pk.length/\d.pk.length=b.pk.length/\uC c d/\Za d≠[]/\Zq H c/\Zq H d))(w:0<=k/\k<256)(B:0<=m/\m<256)(u:Yb H)(j:aM H ⟨3,0,none⟩ [vf 407]) :
  LL.Zb P 83 #[b.v,c.v,d.v,vi s,vi t,.int .u8 k,.int .u8 m] H λv r=>fI H r/\v=vb true:=by
 refine aU.m (fO ZwI) rfl ?_;unfold ZiQ Sb.v;rcases h with⟨rfl,rfl | rfl⟩ | ⟨rfl,rfl,e,f,E,F,L,o,p,q⟩
 ·refine Y ?_;exact⟨.refl _,rfl⟩
 ·refine Y ?_;exact⟨.refl _,rfl⟩
 refine Y ?_;refine Zo (Zhq e p) (Y ?_);refine Zo (Zhq f q) (Y ?_);rw[decide_eq_true (show(c.pk.length:Int)=b.pk.length by omega)];refine Y ?_;rw[decide_eq_true (show(d.pk.length:Int)=b.pk.length by omega)];refine Y ?_;refine Zg (Zy6 g e f L o p q B w u j) ?_;rintro v D ⟨C,rfl⟩;refine Y ?_;exact⟨C,rfl⟩
end
def u64:Tryz.prog.underlying 84=some (.slice 212):=U
