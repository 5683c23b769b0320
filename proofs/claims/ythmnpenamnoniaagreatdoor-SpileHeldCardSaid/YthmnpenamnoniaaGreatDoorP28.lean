import Derived.Test.YthmnpenamnoniaaGreatDoorP27
import Derived.Conc.HoldsTime
import Derived.Test.YthmnpenamnoniaaGreatDoorTie
import Derived.Test.YthmnpenamnoniaaGreatDoorCards
import Derived.ProofKit
import Derived.LaidMore
import Derived.Carry
import Derived.Stop.Joined
set_option linter.all false
set_option maxHeartbeats 8000000
set_option maxRecDepth 40000
section
open Go Go.LL
namespace Go.Proofs
section
variable{H':Hp}{v:Value}{m:List Int}{b:Bk}{x:Zs}{k:ZQ}
def Zwe{H:Hp}(h:bA H H'/\∃w c,v=.tuple #[w,vi (Zy cJ (decide (0<=(1:Int)/\(1:Int)<cJ.aF.length)))]/\cS H H' 3 w (if Zy cJ (decide (0<=(1:Int)/\(1:Int)<cJ.aF.length))=0 then gapL cJ (1:Int).toNat else[]) c):bA H H'/\∃w,v=.tuple #[w,vi 0]/\Zj H' w ([4,5,6]:List Int):=by obtain⟨i,w,c,e,g⟩:=h;have d:Zy cJ (decide (0<=(1:Int)/\(1:Int)<cJ.aF.length))=0:=U;rw[d]at e;rw[BY d,show gapL cJ (1:Int).toNat=[4,5,6]from ex9]at g;exact⟨i,w,e,g.sl⟩
def Zwd{H:Hp}(h:bA H H'/\∃w c,v=.tuple #[w,vi (Zy cJ (decide (0<=(2:Int)/\(2:Int)<cJ.aF.length)))]/\cS H H' 3 w (if Zy cJ (decide (0<=(2:Int)/\(2:Int)<cJ.aF.length))=0 then gapL cJ (2:Int).toNat else[]) c):bA H H'/\∃w,v=.tuple #[w,vi 0]/\Zj H' w ([6,7]:List Int):=by obtain⟨i,w,c,e,g⟩:=h;have d:Zy cJ (decide (0<=(2:Int)/\(2:Int)<cJ.aF.length))=0:=U;rw[d]at e;rw[BY d,show gapL cJ (2:Int).toNat=[6,7]from Zwp]at g;exact⟨i,w,e,g.sl⟩
section
variable{P:aY}[Tz P][Loud P]{H:Hp}
def BZ{u w:Value}{a:List Int}(e:Zj H u a)(hb:Zj H w a)(d:a.length<=1000000):LL.Za P 47 #[u,w] H λv c=>H=c/\v=vb true:=
 LL.Za.mono (ZuI e hb d d) λv c h=>⟨h.1,h.2.trans (by rw[decide_eq_true rfl])⟩
theorem ZpD(JS:P=PP)(hg:ZY H):LL.Za P 7 #[] H λv a=>bA H a/\v=vb true:=by
 refine aI.m (bG c18) rfl ?_;unfold RV;refine Y ?_;refine Zf (vs:=[]) ZAo ?_;rintro v U ⟨i0,r1,r2,rfl,j⟩;have i:ZY U:=aC.inc hg i0;have i1:bA U U:=.refl U;refine Y ?_;refine Z0 (cs:=Zh [(4:Int),6,4]) (OL _) rfl λra hra=>?_;have j2:bA U (U.ins ra (.cells (Zh [(4:Int),6,4]).toArray 3)):=Zk hra;have Rr:Zj (U.ins ra (.cells (Zh [(4:Int),6,4]).toArray 3)) (.slice (some ⟨ra,0,none⟩) 3 3) [(4:Int),6,4]:=YJ (l:=[(4:Int),6,4]);generalize U.ins ra (.cells (Zh [(4:Int),6,4]).toArray 3)=H2 at *;have i2:=i1.trans j2;refine Y ?_;refine Zf (vs:=[.agg #[vi 10,vi 1,.slice (some ⟨r1,0,none⟩) 3 3,.slice (some ⟨r2,0,none⟩) 1 1],.slice (some ⟨ra,0,none⟩) 3 3,YC ⟨2,1⟩]) (LL.Za.mono (ZAl (l:=[4,6,4]) (k:=⟨2,1⟩) (j.inc i2) Rr (aC.inc i i2) (by decide) (by decide) (by decide)) λv a h=>show bA H2 a/\∃w,v=.tuple #[w,vi 0]/\Zj a w ([6,4,7]:List Int)from⟨h.1,by obtain⟨_,w,e,M⟩:=h;rw[TD]at e;rw[EB,BY TD,ex3]at M;exact⟨w,e,M⟩⟩) ?_;rintro v H3 ⟨j3,w2,rfl,HK⟩;have i3:=i2.trans j3;refine Y ?_;refine Zf (vs:=[.agg #[vi 10,vi 1,.slice (some ⟨r1,0,none⟩) 3 3,.slice (some ⟨r2,0,none⟩) 1 1]]) (LL.Za.mono (CF (j.inc i3) (aC.inc i i3) (by decide) (by decide)) λv a h=>show bA H3 a/\v=.tuple #[vi 6,vi 0]from⟨h.1,h.2.trans (DZ J5 TE)⟩) ?_;rintro v H4 ⟨j4,rfl⟩;have i4:=i3.trans j4;refine Y ?_;refine Zf (vs:=[.agg #[vi 10,vi 1,.slice (some ⟨r1,0,none⟩) 3 3,.slice (some ⟨r2,0,none⟩) 1 1]]) (LL.Za.mono (KL (j.inc i4) (aC.inc i i4) (by decide) (by decide)) λv a h=>show bA H4 a/\v=.tuple #[vi 0,vi 0]from⟨h.1,h.2.trans Zwa⟩) ?_;rintro v H5 ⟨j5,rfl⟩;have i5:=i4.trans j5;refine Y ?_;refine Zf (vs:=[.agg #[vi 10,vi 1,.slice (some ⟨r1,0,none⟩) 3 3,.slice (some ⟨r2,0,none⟩) 1 1]]) (LL.Za.mono (TO (j.inc i5) (aC.inc i i5) (by decide) (by decide)) λv a h=>show bA H5 a/\∃w,v=.tuple #[w,vi 0]/\Zj a w ([1,2]:List Int)from⟨h.1,by obtain⟨_,w,bb,e,M⟩:=h;rw[uJ]at e;rw[BY uJ,ex7]at M;exact⟨w,e,M.sl⟩⟩) ?_;rintro v H6 ⟨j6,w8,rfl,Rz⟩;have i6:=i5.trans j6;refine Y ?_;refine Zf (vs:=[.agg #[vi 10,vi 1,.slice (some ⟨r1,0,none⟩) 3 3,.slice (some ⟨r2,0,none⟩) 1 1]]) (LL.Za.mono (WX (j.inc i6) (aC.inc i i6) (by decide) (by decide)) λv a h=>show bA H6 a/\∃w,v=.tuple #[w,vi 0]/\Zj a w [(⟨1,1⟩:ZQ),⟨2,1⟩]from⟨h.1,by obtain⟨_,⟨h0,_⟩ | ⟨_,w,bb,e,M⟩⟩:=h;exact absurd uJ h0;rw[ex8]at M;exact⟨w,e,M.sl⟩⟩) ?_;rintro v H7 ⟨j7,w10,rfl,HN⟩;have i7:=i6.trans j7;refine Y ?_;refine Zf (vs:=[.agg #[vi 10,vi 1,.slice (some ⟨r1,0,none⟩) 3 3,.slice (some ⟨r2,0,none⟩) 1 1],vi 1]) (LL.Za.mono (KI (n:=1) (j.inc i7) (aC.inc i i7) (by decide) (by decide)) λv a h=>show bA H7 a/\∃w,v=.tuple #[w,vi 0]/\Zj a w ([4,5,6]:List Int)from Zwe h) ?_;rintro v H8 ⟨j8,w12,rfl,HM⟩;have i8:=i7.trans j8;refine Y ?_;refine Zf (vs:=[.agg #[vi 10,vi 1,.slice (some ⟨r1,0,none⟩) 3 3,.slice (some ⟨r2,0,none⟩) 1 1],vi 2]) (LL.Za.mono (KI (n:=2) (j.inc i8) (aC.inc i i8) (by decide) (by decide)) λv a h=>show bA H8 a/\∃w,v=.tuple #[w,vi 0]/\Zj a w ([6,7]:List Int)from Zwd h) ?_;rintro v H9 ⟨j9,w14,rfl,HL⟩;have i9:=i8.trans j9;refine Y ?_;refine Z0 (cs:=Zh [(6:Int),5,6]) (OL _) rfl λrb IZ=>?_;have q:bA H9 (H9.ins rb (.cells (Zh [(6:Int),5,6]).toArray 3)):=Zk IZ;have Rq:Zj (H9.ins rb (.cells (Zh [(6:Int),5,6]).toArray 3)) (.slice (some ⟨rb,0,none⟩) 3 3) [(6:Int),5,6]:=YJ (l:=[(6:Int),5,6]);generalize H9.ins rb (.cells (Zh [(6:Int),5,6]).toArray 3)=vU at *;have W:=i9.trans q;refine Y ?_;refine Zf (vs:=[.agg #[vi 10,vi 1,.slice (some ⟨r1,0,none⟩) 3 3,.slice (some ⟨r2,0,none⟩) 1 1],.slice (some ⟨rb,0,none⟩) 3 3]) (LL.Za.mono (Zz4 (l:=[6,5,6]) (j.inc W) Rq (aC.inc i W) (by decide) (by decide) (by decide)) λv a h=>show bA vU a/\v=.tuple #[.agg #[vi (-4),vi 0],vb true,vi 0]from⟨h.1,h.2.trans Zwo⟩) ?_;rintro v yW ⟨r,rfl⟩;have Z:=W.trans r;refine Y ?_;refine Zf (vs:=[.agg #[vi 10,vi 1,.slice (some ⟨r1,0,none⟩) 3 3,.slice (some ⟨r2,0,none⟩) 1 1]]) (LL.Za.mono (Zz6 (j.inc Z) (aC.inc i Z) (by decide) (by decide)) λv a h=>show bA yW a/\v=.tuple #[vi 2,vi 6,vi 0]from⟨h.1,h.2.trans Zwn⟩) ?_;rintro v H12 ⟨u,rfl⟩;have IK:=Z.trans u;refine Y ?_;refine Zf (vs:=[.agg #[vi 10,vi 1,.slice (some ⟨r1,0,none⟩) 3 3,.slice (some ⟨r2,0,none⟩) 1 1]]) (LL.Za.mono (WS (j.inc IK) (aC.inc i IK) (by decide) (by decide)) λv a h=>show bA H12 a/\v=.tuple #[vi 1,vi 0]from⟨h.1,h.2.trans Zwc⟩) ?_;rintro v QC ⟨y,rfl⟩;have IJ:=IK.trans y;refine Y ?_;refine Zf (vs:=[.agg #[vi 10,vi 1,.slice (some ⟨r1,0,none⟩) 3 3,.slice (some ⟨r2,0,none⟩) 1 1]]) (LL.Za.mono (WZ (j.inc IJ) (aC.inc i IJ) (by decide) (by decide)) λv a h=>show bA QC a/\v=.tuple #[vi (-3),vb true,vi 0]from⟨h.1,h.2.trans Zwl⟩) ?_;rintro v H14 ⟨z,rfl⟩;have II:=IJ.trans z;refine Y ?_;refine Zf (vs:=[.agg #[vi 10,vi 1,.slice (some ⟨r1,0,none⟩) 3 3,.slice (some ⟨r2,0,none⟩) 1 1]]) (LL.Za.mono (ZAa JS (j.inc II) (aC.inc i II) (by decide) (by decide)) λv a h=>show bA H14 a/\v=.tuple #[vi (-3),vi 6,vi 0]from⟨h.1,h.2.trans Zwb⟩) ?_;rintro v H15 ⟨A,rfl⟩;have IH:=II.trans A;refine Y ?_;refine Zf (vs:=[.agg #[vi 10,vi 1,.slice (some ⟨r1,0,none⟩) 3 3,.slice (some ⟨r2,0,none⟩) 1 1]]) (LL.Za.mono (ZAE (j.inc IH) (aC.inc i IH) (by decide) (by decide)) λv a h=>show bA H15 a/\v=.tuple #[vi 1,vi 3,vi 0]from⟨h.1,h.2.trans Zwf⟩) ?_;rintro v H16 ⟨B,rfl⟩;have i16:=IH.trans B;refine Y ?_;refine Zl (vs:=[vi 6]) (wP 6) ?_;refine Zr OL (Y ?_);refine Zf (vs:=[.agg #[vi 10,vi 1,.slice (some ⟨r1,0,none⟩) 3 3,.slice (some ⟨r2,0,none⟩) 1 1],.agg #[vi 2,vi 6,vi 6]]) (LL.Za.mono (WG (c:=⟨2,6,6⟩) (j.inc i16) (aC.inc i i16) (by decide) (by decide)) λv a h=>show bA H16 a/\∃pa T O R,v=.tuple #[.agg #[vi 10,vi 1,.slice pa 3 T,.slice O 2 R],vi 0]/\bK a (.agg #[vi 10,vi 1,.slice pa 3 T,.slice O 2 R]) (ZM cJ ⟨2,6,6⟩)from⟨h.1,MN h.2 Zwi⟩) ?_;rintro v H17 ⟨D,pa,T,O,R,rfl,SZ⟩;have R3:=i16.trans D;refine Zr OL (Y ?_);refine Zf (vs:=[.agg #[vi 10,vi 1,.slice pa 3 T,.slice O 2 R]]) (LL.Za.mono (CF SZ (aC.inc i R3) (by decide) (by decide)) λv a h=>show bA H17 a/\v=.tuple #[vi 2,vi 0]from⟨h.1,h.2.trans (DZ L4.1 L4.2)⟩) ?_;rintro v H18 ⟨o,rfl⟩;have R2:=R3.trans o;refine Y ?_;refine Zf (vs:=[.agg #[vi 10,vi 1,.slice pa 3 T,.slice O 2 R]]) (LL.Za.mono (KL (SZ.inc o) (aC.inc i R2) (by decide) (by decide)) λv a h=>show bA H18 a/\v=.tuple #[vi 2,vi 0]from⟨h.1,h.2.trans Zv9⟩) ?_;rintro v H19 ⟨E,rfl⟩;have IG:=R2.trans E;refine Y ?_;refine Zl (vs:=[vi 6]) (wP 6) ?_;refine Zr OL (Y ?_);refine Zf (vs:=[.agg #[vi 10,vi 1,.slice (some ⟨r1,0,none⟩) 3 3,.slice (some ⟨r2,0,none⟩) 1 1],vi 1,.agg #[vi 6,vi 6]]) (LL.Za.mono (Zz8 (n:=1) (xl:=6) (xh:=6) (j.inc IG) (aC.inc i IG) (by decide) (by decide)) λv a h=>show bA H19 a/\∃pa T O R,v=.tuple #[.agg #[vi 10,vi 1,.slice pa 3 T,.slice O 1 R],vi 0]/\bK a (.agg #[vi 10,vi 1,.slice pa 3 T,.slice O 1 R]) (Vl cJ 1 6 6)from⟨h.1,MN h.2 Zwh⟩) ?_;rintro v H20 ⟨F,pa2,pc2,ca2,cc2,rfl,hbd⟩;have R1:=IG.trans F;refine Zr OL (Y ?_);refine Zf (vs:=[.agg #[vi 10,vi 1,.slice pa2 3 pc2,.slice ca2 1 cc2]]) (LL.Za.mono (CF hbd (aC.inc i R1) (by decide) (by decide)) λv a h=>show bA H20 a/\v=.tuple #[vi 3,vi 0]from⟨h.1,h.2.trans (DZ Ae.1 Ae.2)⟩) ?_;rintro v H21 ⟨G,rfl⟩;have IE:=R1.trans G;refine Y ?_;refine Zf (vs:=[.agg #[vi 10,vi 1,.slice (some ⟨r1,0,none⟩) 3 3,.slice (some ⟨r2,0,none⟩) 1 1],vi 0]) (LL.Za.mono (ZAn (n:=0) (j.inc IE) (aC.inc i IE) (by decide) (by decide)) λv a h=>show bA H21 a/\∃pa T O R,v=.tuple #[.agg #[vi 10,vi 0,.slice pa 3 T,.slice O 1 R],vi 0]/\bK a (.agg #[vi 10,vi 0,.slice pa 3 T,.slice O 1 R]) (uX cJ 0)from⟨h.1,MN h.2 Zwg⟩) ?_;rintro v H22 ⟨I,pa3,pc3,ca3,cc3,rfl,hbe⟩;have R0:=IE.trans I;refine Y ?_;refine Zf (vs:=[.agg #[vi 10,vi 0,.slice pa3 3 pc3,.slice ca3 1 cc3]]) (LL.Za.mono (CF hbe (aC.inc i R0) (by decide) (by decide)) λv a h=>show bA H22 a/\v=.tuple #[vi 2,vi 0]from⟨h.1,h.2.trans (DZ Af.1 Af.2)⟩) ?_;rintro v H23 ⟨J,rfl⟩;have ID:=R0.trans J;refine OQ ?_;have g2:=((((((((((((((((((((HK.inc j4).inc j5).inc j6).inc j7).inc j8).inc j9).inc q).inc r).inc u).inc y).inc z).inc A).inc B).inc D).inc o).inc E).inc F).inc G).inc I).inc J);have g8:=(((((((((((((((((Rz.inc j7).inc j8).inc j9).inc q).inc r).inc u).inc y).inc z).inc A).inc B).inc D).inc o).inc E).inc F).inc G).inc I).inc J);have TB:=((((((((((((((((HN.inc j8).inc j9).inc q).inc r).inc u).inc y).inc z).inc A).inc B).inc D).inc o).inc E).inc F).inc G).inc I).inc J);have TA:=(((((((((((((((HM.inc j9).inc q).inc r).inc u).inc y).inc z).inc A).inc B).inc D).inc o).inc E).inc F).inc G).inc I).inc J);have S9:=((((((((((((((HL.inc q).inc r).inc u).inc y).inc z).inc A).inc B).inc D).inc o).inc E).inc F).inc G).inc I).inc J);obtain⟨A2,c2,rfl,_⟩:=id g2;obtain⟨A8,c8,rfl,_⟩:=id g8;obtain⟨A10,DJ,rfl,_⟩:=id TB;obtain⟨A12,AP,rfl,_⟩:=id TA;obtain⟨A14,c14,rfl,_⟩:=id S9;refine Y9 (ι:=Option Addr×Nat) (λs a=>bA H23 a/\Zj a (.slice s.1 1 s.2) [(2:Int)]) (λs=>[(0,vb false),(2,.slice A2 3 c2),(3,vi 0),(4,vi 6),(5,vi 0),(6,vi 0),(7,vi 0),(8,.slice A8 2 c8),(9,vi 0),(10,.slice A10 2 DJ),(11,vi 0),(12,.slice A12 3 AP),(13,vi 0),(14,.slice A14 2 c14),(15,vi 0),(16,vi 0),(17,vb true),(18,vi 0),(19,vi 2),(20,vi 6),(21,vi 0),(22,vi 1),(23,vi 0),(24,vi (-3)),(25,vb true),(26,vi 0),(27,vi (-3)),(28,vi 6),(29,vi 0),(30,vi 1),(31,vi 3),(32,vi 0),(34,vi 0),(35,vi 2),(36,vi 0),(37,vi 2),(38,vi 0),(40,vi 0),(41,vi 3),(42,vi 0),(44,vi 0),(45,vi 2),(46,vi 0),(47,.slice s.1 1 s.2),(48,vi 0)]) (λ_=>[(16,[vi (-4),vi 0])]) ?_ ?_
 ·refine Y ?_;refine Zl (vs:=[vi 6]) (wP 6) ?_;refine Zr OL (Y ?_);refine Zf (vs:=[.agg #[vi 10,vi 1,.slice (some ⟨r1,0,none⟩) 3 3,.slice (some ⟨r2,0,none⟩) 1 1],.agg #[vi 0,vi 6,vi 6]]) (WH (c:=⟨0,6,6⟩) (j.inc ID) (by decide)) ?_;rintro v K1 ⟨k1,JC⟩;obtain⟨_,_,rfl,⟨pa4,pc4,rfl,_⟩,⟨ca4,cc4,rfl,_⟩⟩:=id JC;refine Y ?_;refine Zl (vs:=[vi 5]) (wP 5) (Y ?_);refine Zf (vs:=[_,.agg #[vi 0,vi 5,vi 5]]) (WH (c:=⟨0,5,5⟩) JC (by decide)) ?_;rintro v K2 ⟨k2,JB⟩;obtain⟨_,_,rfl,⟨pa5,pc5,rfl,_⟩,⟨ca5,cc5,rfl,_⟩⟩:=id JB;refine Y ?_;refine Zf (vs:=[_]) (ZAB (b:=DH) JB (aC.inc i ((ID.trans k1).trans k2)) (by decide) (by decide)) ?_;rintro v K3 ⟨k3,w,rfl,M⟩;rw[BY ⟨DY.1,DY.2.1⟩,DY.2.2]at M;rw[DY.1];obtain⟨Ri,TJ,rfl,_⟩:=id M;refine Y ?_;exact⟨(Ri,TJ),⟨(k1.trans k2).trans k3,M⟩,V,V,rfl⟩
 rintro⟨Ri,TJ⟩ K ⟨kk,g47⟩;have f2:=g2.inc kk;have f8:=g8.inc kk;have f10:=TB.inc kk;have f12:=TA.inc kk;have f14:=S9.inc kk;have ik:=ID.trans kk;refine Y ?_;refine Z0 (cs:=Zh [(6:Int),4,7]) (OL _) rfl λq0 hq0=>?_;have p:bA K (K.ins q0 (.cells (Zh [(6:Int),4,7]).toArray 3)):=Zk hq0;have Rx:Zj (K.ins q0 (.cells (Zh [(6:Int),4,7]).toArray 3)) (.slice (some ⟨q0,0,none⟩) 3 3) [(6:Int),4,7]:=YJ (l:=[(6:Int),4,7]);generalize K.ins q0 (.cells (Zh [(6:Int),4,7]).toArray 3)=K1 at *;refine Zr OL (Y ?_);refine Zl (vs:=[.slice A2 3 c2,.slice (some ⟨q0,0,none⟩) 3 3]) (BZ (f2.inc p) Rx (by decide)) (Y ?_);refine Z0 (cs:=Zh [(1:Int),2]) (OL _) rfl λq1 hq1=>?_;have L:bA K1 (K1.ins q1 (.cells (Zh [(1:Int),2]).toArray 3)):=Zk hq1;have Rw:Zj (K1.ins q1 (.cells (Zh [(1:Int),2]).toArray 3)) (.slice (some ⟨q1,0,none⟩) 2 2) [(1:Int),2]:=YJ (l:=[(1:Int),2]);generalize K1.ins q1 (.cells (Zh [(1:Int),2]).toArray 3)=K2 at *;refine Zr OL (Y ?_);refine Zl (vs:=[.slice A8 2 c8,.slice (some ⟨q1,0,none⟩) 2 2]) (BZ ((f8.inc p).inc L) Rw (by decide)) (Y ?_);refine Z0 (cs:=Zh [(⟨1,1⟩:ZQ),⟨2,1⟩]) (OL _) rfl λq2 hq2=>?_;have N:bA K2 (K2.ins q2 (.cells (Zh [(⟨1,1⟩:ZQ),⟨2,1⟩]).toArray 31)):=Zk hq2;have Rv:Zj (K2.ins q2 (.cells (Zh [(⟨1,1⟩:ZQ),⟨2,1⟩]).toArray 31)) (.slice (some ⟨q2,0,none⟩) 2 2) [(⟨1,1⟩:ZQ),⟨2,1⟩]:=YJ (l:=[(⟨1,1⟩:ZQ),⟨2,1⟩]);generalize K2.ins q2 (.cells (Zh [(⟨1,1⟩:ZQ),⟨2,1⟩]).toArray 31)=K3 at *;refine Zr OL (Y ?_);refine Zf (vs:=[.slice A10 2 DJ,.slice (some ⟨q2,0,none⟩) 2 2]) (Zz5 (((f10.inc p).inc L).inc N) Rv (by decide) (by decide)) ?_;rintro v _ ⟨rfl,hv,_⟩;obtain rfl:=hv rfl;refine Y ?_;refine Z0 (cs:=Zh [(4:Int),5,6]) (OL _) rfl λq3 hq3=>?_;have S:bA K3 (K3.ins q3 (.cells (Zh [(4:Int),5,6]).toArray 3)):=Zk hq3;have Ru:Zj (K3.ins q3 (.cells (Zh [(4:Int),5,6]).toArray 3)) (.slice (some ⟨q3,0,none⟩) 3 3) [(4:Int),5,6]:=YJ (l:=[(4:Int),5,6]);generalize K3.ins q3 (.cells (Zh [(4:Int),5,6]).toArray 3)=K4 at *;refine Zr OL (Y ?_);refine Zl (vs:=[.slice A12 3 AP,.slice (some ⟨q3,0,none⟩) 3 3]) (BZ ((((f12.inc p).inc L).inc N).inc S) Ru (by decide)) (Y ?_);refine Z0 (cs:=Zh [(6:Int),7]) (OL _) rfl λq4 hq4=>?_;have IC:bA K4 (K4.ins q4 (.cells (Zh [(6:Int),7]).toArray 3)):=Zk hq4;have Rt:Zj (K4.ins q4 (.cells (Zh [(6:Int),7]).toArray 3)) (.slice (some ⟨q4,0,none⟩) 2 2) [(6:Int),7]:=YJ (l:=[(6:Int),7]);generalize K4.ins q4 (.cells (Zh [(6:Int),7]).toArray 3)=K5 at *;refine Zr OL (Y ?_);refine Zl (vs:=[.slice A14 2 c14,.slice (some ⟨q4,0,none⟩) 2 2]) (BZ (((((f14.inc p).inc L).inc N).inc S).inc IC) Rt (by decide)) (Y ?_);refine Zl (vs:=[vi (-4),vi 0]) (uO (-4) 0) (Y ?_);refine yI (b:=decide ((-4:Int)=-4/\(0:Int)=0)) (xs:=#[vi (-4),vi 0]) (ys:=#[vi (-4),vi 0]) g49 (λQ g H hq=>wH (.inr HO) Q hq) rfl rfl (Y ?_);refine Z0 (cs:=Zh [(2:Int)]) (OL _) rfl λq5 hq5=>?_;have RZ:bA K5 (K5.ins q5 (.cells (Zh [(2:Int)]).toArray 3)):=Zk hq5;have Rs:Zj (K5.ins q5 (.cells (Zh [(2:Int)]).toArray 3)) (.slice (some ⟨q5,0,none⟩) 1 1) [(2:Int)]:=YJ (l:=[(2:Int)]);generalize K5.ins q5 (.cells (Zh [(2:Int)]).toArray 3)=K6 at *;refine Y ?_;refine Zl (vs:=[.slice Ri 1 TJ,.slice (some ⟨q5,0,none⟩) 1 1]) (BZ ((((((g47.inc p).inc L).inc N).inc S).inc IC).inc RZ) Rs (by decide)) (Y ?_);exact⟨i0.trans ((((((ik.trans p).trans L).trans N).trans S).trans IC).trans RZ),rfl⟩
end
def Qy:∀{l m:List Int},l.Pairwise (·<·)->m.Pairwise (·<·)->(∀x,x∈l↔x∈m)->l=m
 | [],[],_,_,_=>rfl
 | [],y :: m,_,_,h=>by have:=(h y).2 (qAs ..);simp at this
 | x :: l,[],_,_,h=>by have:=(h x).1 (qAs ..);simp at this
 | x :: l,y :: m,j,n,h=>by
  obtain⟨i,o⟩:=qBa.1 j;obtain⟨m1,p⟩:=qBa.1 n;have d:x=y:=by
   have e:=(h x).1 (qAs ..);have g:=(h y).2 (qAs ..);rcases DO.1 e with rfl | e
   ·rfl
   rcases DO.1 g with rfl | g
   ·rfl
   have:=i y g;have:=m1 x e;omega
  subst d;congr 1;refine Qy o p λz=>⟨λc=>?_,λc=>?_⟩
  ·rcases DO.1 ((h z).1 (qAc _ c))with rfl | a
   ·have:=i z c;omega
   exact a
  rcases DO.1 ((h z).2 (qAc _ c))with rfl | a
  ·have:=m1 z c;omega
  exact a
def ML(x:Int):∀(l:List Int) (z:Int),z∈gK x l↔z=x\/z∈l
 | [],z=>by simp[gK]
 | y :: r,z=>by
  rw[gK];have ih:=ML x r z;split
  ·rw[DO,ih,DO];constructor
   ·rintro(h | h | h)
    ·exact .inr (.inl h)
    ·exact .inl h
    exact .inr (.inr h)
   rintro(h | h | h)
   ·exact .inr (.inl h)
   ·exact .inl h
   exact .inr (.inr h)
  split
  ·rename_i h;subst h;rw[DO];constructor
   ·exact .inr
   rintro(h | h)
   ·exact .inl h
   exact h
  rw[DO]
def Ck(x:Int):∀{l:List Int},l.Pairwise (·<·)->(gK x l).Pairwise (·<·)
 | [],_=>by simp[gK]
 | y :: r,h=>by
  obtain⟨c,d⟩:=qBa.1 h;rw[gK];split
  ·rename_i e;refine qBa.2 ⟨λz a=>?_,Ck x d⟩;rcases(ML x r z).1 a with rfl | a
   ·exact e
   exact c z a
  split
  ·exact h
  refine qBa.2 ⟨λz a=>?_,h⟩;rcases DO.1 a with rfl | a
  ·omega
  have:=c z a;omega
def E5:∀l:List Int,(VL l).Pairwise (·<·)/\∀z,z∈VL l↔z∈l:=by
 refine xA ⟨.nil,λz=>qCm⟩ λl x ih=>?_;have e:VL (l++[x])=gK x (VL l):=by rw[VL,qBA];rfl
 rw[e];refine⟨Ck x ih.1,λz=>?_⟩;rw[ML,ih.2 z,qAi,iF];exact Or.comm
def XW{l:List Int}(h:l.Pairwise (·<=·)):∀n,n<=l.length->(Z1 l n).Pairwise (·<·)/\(∀z,z∈Z1 l n↔z∈l.take n)/\(∀z∈Z1 l n,z<=el l (n-1))
 | 0,_=>⟨.nil,λz=>by simp[Z1],λz d=>by simp[Z1]at d⟩
 | n+1,G=>by
  obtain⟨r,u,o⟩:=XW h n O;have e:∀i j,i<=j->j<l.length->el l i<=el l j:=by
   intro i j F w;rw[sS O,sS w];rcases qAM i j with p | p
   ·exact List.pairwise_iff_getElem.1 h i j O w p
   have:i=j:=O;subst this;exact qAA _
  rw[xJ O];by_cases q:n=0
  ·subst q;rw[XU];exact⟨qCA _ _,λz=>by simp,λz d=>by rw[iF.1 d];exact qAA _⟩
  by_cases g:el l n=el l (n-1)
  ·rw[MU q g];refine⟨r,λz=>?_,λz d=>?_⟩
   ·rw[u,qAi,iF];constructor
    ·exact .inl
    rintro(d | rfl)
    ·exact d
    rw[g];have y:n=(n-1)+1:=O;rw[y,xJ O];simp
   have:=o z d;rw[qBX,g];exact this
  rw[MV g];refine⟨?_,λz=>?_,λz d=>?_⟩
  ·rw[List.pairwise_append];refine⟨r,qCA _ _,λa D c E=>?_⟩;rw[iF.1 E];have A:=o a D;have B:=e (n-1) n O O;omega
  ·rw[qAi,u,qAi]
  rw[qBX];rcases qAi.1 d with d | d
  ·have A:=o z d;have B:=e (n-1) n O O;omega
  rw[iF.1 d];exact qAA _
def XV{l:List Int}(h:l.Pairwise (·<=·))(g:∀z,z∈l↔z∈m):U5 l=VL m:=by obtain⟨a,c,_⟩:=XW h l.length (AT _);obtain⟨d,e⟩:=E5 m;exact Qy a d λz=>by rw[U5,c,e,qAh];exact g z
def T6(v:Zw b)(h:x∈Zd b):(⟨x.bf,x.bP⟩:ZQ)∈ZB b:=by rw[T8 v]at h;obtain⟨l,_,h⟩:=qCg.1 h;obtain⟨k,a,rfl⟩:=qAj.1 (qAq.1 h).1;exact a
def M9(v:Zw b)(h:k∈(ZB b).drop 1):(1<=k.bf/\k.bf<b.aF.length)/\-b.sl<=k.bP/\k.bP<=b.sl/\k.bP≠0:=by have:=v.sl;have:=v.n;have h:=NU (n:=b.aF.length) (sl:=b.sl.toNat) _ O k h;omega
def Mf(h:k∈ZB b):k=⟨0,0⟩\/k∈(ZB b).drop 1:=DO.1 h
def ZpS(v:Zw b)(h:x∈Zd b):x.cH=lB x:=by
 rcases Mf (T6 v h)with a | a
 ·simp only[ZQ.mk.injEq]at a;simp[Zs.cH,lB,a]
 have:=(M9 v a).2.2.2;simp only at this;simp[Zs.cH,lB,this]
def ZpR(v:Zw b):(Zd b).filter Zs.cH=(Zd b).filter lB:=qCe λx a=>ZpS v a
def ZpQ(v:Zw b):w9 b=Mh b:=by
 have g:ZB b=⟨0,0⟩ :: (ZB b).drop 1:=rfl;rw[w9,g,qBv,Mh];have c:((Zd b).any (Uw ⟨0,0⟩))=false:=by rw[List.any_eq_false];intro x _;simp only[Uw,Zs.cH];by_cases h:x.bf=0/\x.bP=0<;>simp[h]
 rw[c,bY (by simp)];refine qCe λk i=>?_;have a:=(M9 v i).2.2.2;rw[qCb,qBR,qBR];constructor
 ·rintro⟨x,d,h⟩;exact⟨x,d,by simp only[Uw,oR]at h;exact h.2⟩
 rintro⟨x,d,h⟩;refine⟨x,d,?_⟩;have h:=of_decide_eq_true h;simp only[Uw,Zs.cH,h,oR];simp[a]
def x9{a:Int}{c:Nat}:∀r,∀k∈cF a c r,k.bf=a
 | 0,k,h=>by simp[cF]at h
 | r+1,k,h=>by
  rw[cF]at h;split at h
  ·exact x9 r k h
  rcases DO.1 h with rfl | h
  ·rfl
  exact x9 r k h
def NT{n a:Nat}:∀r,∀k∈bW n a r,(n:Int)-r<=k.bf
 | 0,k,h=>by simp[bW]at h
 | r+1,k,h=>by
  rw[bW]at h;rcases qAi.1 h with h | h
  ·have:=x9 _ k h;omega
  have:=NT r k h;omega
def Zs3{l:List ZQ}{c:Int}(h:∀k∈l,k.bf=c):l.Pairwise λa d=>a.bf<=d.bf:=by
 induction l with
 | nil=>exact .nil
 | cons a l ih=>
  refine qBa.2 ⟨λd e=>?_,ih λk g=>h k (qAc _ g)⟩;rw[h a (qAs ..),h d (qAc _ e)];exact qAA _
def Jp{n h:Nat}:∀r,(bW n h r).Pairwise λa d=>a.bf<=d.bf
 | 0=>.nil
 | r+1=>by rw[bW,List.pairwise_append];refine⟨Zs3 λk g=>x9 _ k g,Jp r,λa c d e=>?_⟩;have i:=x9 _ a c;have j:=NT r d e;omega
def PU(v:Zw b):Vp b=VL (((Zd b).filter lB).map Zs.bf):=by
 rw[Vp,ZpQ v];refine XV ?_ λz=>?_
 ·rw[qCv];exact(Jp _).sublist List.filter_sublist
 rw[qAj,qAj];constructor
 ·rintro⟨k,g,rfl⟩;obtain⟨a,d⟩:=qAq.1 g;obtain⟨x,e,c⟩:=qBR.1 d;have c:=of_decide_eq_true c;refine⟨x,qAq.2 ⟨e,?_⟩,c.1⟩;have:=(M9 v a).2.2.2;simp[lB,c.2,this]
 rintro⟨x,e,rfl⟩;obtain⟨a,d⟩:=qAq.1 e;refine⟨⟨x.bf,x.bP⟩,qAq.2 ⟨?_,qBR.2 ⟨x,a,by simp[Me]⟩⟩,rfl⟩;rcases Mf (T6 v a)with h | h
 ·simp only[ZQ.mk.injEq]at h;simp[lB,h.2]at d
 exact h
def Dj{p:Nat}(a:m=(Zd b).map λx=>(Zm b x).get p):gapL b p=VL m:=by rw[gapL];exact XV (NC _) λz=>by rw[(BC _).mem_iff,a]
def Jr{α:Type}[Enc α]{a H:Hp}{E:TypeId}{l:List α}{b:Option Nat}(h:cS a H E v l b):∃A c,v=.slice A l.length c:=by obtain⟨A,c,d,_⟩:=h.sl;exact⟨A,c,d⟩
end
end Go.Proofs
end
section
open Go Go.LL
namespace Go.LL
section
variable{P:aY}{fn:Func}{t:Nat}{f:FuncId}{v0:Value}
def Nb{L:FuncId}{G:Frame->List Frame->Hp->Prop}{l:List Frame}{e:Value->Hp->Prop}(z:Uc G)
  (T:∀(a:Frame) (H:Hp),a.mode=.returning->a.defers=[]->a.fn=L/\a.kind=.normal->P.funcs[a.fn]? = some fn->bD P (results fn a.tmps) (λv _ c=>e v c) false H->Reach P G a l H) :
  ∀(i:List Deferred) (a:Frame) (H:Hp),a.mode=.returning->a.defers=i->a.fn=L/\a.kind=.normal->P.funcs[a.fn]? = some fn->iP P fn a.tmps e i H->Reach P G a l H:=by
 intro i;induction i with
 | nil=>
  intro a H u A I F h;exact T a H u A I F h
 | cons d i ih=>
  intro a H u A I F h;have g:∀c,iP P fn a.tmps e i c->Reach P G { a with defers:=i } l c:=λc K=>ih { a with defers:=i } c u rfl I F K;have o:(∃r,d.target=.collected r)\/(UT d.target=true/\(bD P (invoke d.target d.args) (λn _ c=>rE P (iP P fn a.tmps e i) n c) false H \/
    (OC P.toProgram (invoke d.target d.args)/\Zp P (invoke d.target d.args) false false H λ_ c=>iP P fn a.tmps e i c))):=by
   simp only[iP]at h
   split at h
   ·exact .inl ⟨_,‹_›⟩
   ·exact .inr h
  rcases o with⟨r,J⟩ | o
  ·simp only[iP,J]at h;obtain⟨B,M,S⟩:=h;refine .oL (s:=Instr.takeDeferred r) (Q:=λv _ c=>v=[]/\c=H.ins r (.deferred none)) ?_ ?_
   ·simp only[Instr.takeDeferred,Ze,getObj,setObj];exact⟨_,_,⟨B,M⟩,rfl,rfl,_,⟨B,M⟩,rfl,rfl,rfl,rfl,rfl⟩
   rintro v O ⟨rfl,_⟩;refine⟨{ a with defers:=i },l,λmain w E es p=>⟨seen P a.fn es,?_,.inr rfl⟩,λc q=>?_⟩
   ·rw[BD u];obtain⟨V,U⟩:=d;simp only at J;subst J;unfold unwind;rw[A];simp only[p,GStep.after,qAn,qAg]
   rw[q.2];exact g _ S
  obtain⟨y,h⟩:=o;have j:∀main w,stepG P main (bO a l) w=callDeferred P { a with defers:=i } l none d w:=by intro main w;rw[BD u];exact FU A y
  rcases h with h | ⟨D,h⟩;case inr=>
   refine h G a (λ_=>{ a with defers:=i }) l z ⟨λmain l w E v es p=>?_,.inl D,.inl D,λh=>by simp at h,λh=>by simp at h⟩ λv c K=>g _ K
   rw[BD u,FU A y]
   exact(Ow y p).2 (.inl ⟨v,rfl⟩)
  refine .oL h ?_;intro n O R;cases n with
  | enter f args=>
   refine⟨_,_,λmain w E es p=>⟨seen P a.fn es,?_,.inr rfl⟩,λc q=>q G _ l z (show tR { a with defers:=i }by unfold tR;rw[u];trivial) λv N D=>g _ D⟩;rw[j];exact(Ow y p).1 f args rfl
  | value v=>
   refine⟨{ a with defers:=i },l,λmain w E es p=>⟨seen P a.fn es,?_,.inr rfl⟩,λc q=>g _ q⟩;rw[j];exact(Ow y p).2 (.inl ⟨v,rfl⟩)
  | skip=>
   refine⟨{ a with defers:=i },l,λmain w E es p=>⟨seen P a.fn es,?_,.inr rfl⟩,λc q=>g _ q⟩;rw[j];exact(Ow y p).2 (.inr rfl)
  | _=>exact R.elim
def pT(P:Program)(f:FuncId)(fn:Func)(t:Nat)(v:Value)(a:Frame)(c:List Frame)(_:Hp):Prop:=
 c=[]/\a.mode=.returning/\a.defers=[]/\(a.fn=f/\a.kind=.normal)/\P.funcs[a.fn]? = some fn/\fn.results=#[.tmp t]/\a.tmps.getD t undef=v
def Ng(h:fn.results=#[.tmp t])(tmps:Array Value):results fn tmps=pure (tmps.getD t undef):=by simp[results,h]
def pT.closed(P:Program)(f:FuncId)(fn:Func)(t:Nat)(v:Value):Uc (pT P f fn t v):=λ_ _ _ _ _ h=>h
theorem ZqG{k:Nat}{n:Zb}{K:List Zc}(h:aI P f k n K)(g:P.funcs[f]? = some fn)(j:fn.results=#[.tmp t]){args:List Value}{H:Hp}(Z:args.length=k)
  (hw:n.m P (sC P K λv _=>v=v0) (VD args) H):Reach P (pT P f fn t v0) (Frame.enter P f args.toArray .normal) [] H:=by
 obtain⟨c,L,U,V,N,O⟩:=h;obtain rfl:c=fn:=iN (U.symm.trans g);rw[oR,oR,qAv]at O;obtain⟨body,hb,hn⟩:=qCx.1 V;subst Z;have I:G9 n K P args (λv _=>v=v0) H:=by unfold G9;refine Zb.jS ?_ hw;intro e σ H h;cases e<;>exact h
 obtain⟨⟨hl,hm⟩,z⟩:=O;have A:cX P L c.ntmps (VD args) H ⟨args.toArray++Array.replicate (c.ntmps-args.toArray.size) undef,[]⟩ H:=by
  refine⟨by simp;omega,rfl,λ_=>0,.nil,?_,?_,?_,?_,?_,.nil _ _⟩
  ·exact(Hp.dF H).symm
  ·exact Hp.dI H
  ·intro d T h;simp[VD]at h
  ·intro d d' T dH h;simp[VD]at h
  intro t v E;simp only[VD]at E;have y:t<args.length:=by
   rcases qAM t args.length with h | h
   ·exact h
   simp[qAF h]at E
  have F:L.lookup t=none:=by
   cases Y:L.lookup t with
   | none=>rfl
   | some d=>
    obtain⟨l1,l2,rfl,_⟩:=qCB.1 Y;have:=qAp.1 hl (t,d) (by simp);simp at this;omega
  unfold V8;rw[F];simp[Array.getElem?_append,y];rw[qAx y]at E;simpa using E
 have B:dZ P ⟨true,c.norace⟩ body (λe a H=>match e with | .exit _=>False | _=>iP P c a.tmps (λv o=>∃u J:Hp,o=u.join J/\u.Comp J/\v=v0) a.defers H) ⟨args.toArray++Array.replicate (c.ntmps-args.toArray.size) undef,[]⟩ H:=by
  refine(VT (rd:=⟨true,c.norace⟩) (λh=>by rw[h]at z;simpa using z) hn I A).mono ?_;rintro e ⟨at_,ad⟩ Ha ⟨σ,o,r,p⟩;cases e with
  | normal=>exact xL N _ _ _ _ r p
  | ret=>exact xL N _ _ _ _ r p
  | exit id=>exact p.elim
 have W:Frame.enter P f args.toArray .normal=on (Frame.enter P f args.toArray .normal) ⟨args.toArray++Array.replicate (c.ntmps-args.toArray.size) undef,[]⟩ [.code body]:=by simp[Frame.enter,on,g,hb]
 rw[W];have G:(Frame.enter P f args.toArray .normal).roundOf=none:=rfl;have l:∀(i:Frame) (H:Hp),i.mode=.returning->i.defers=[]->i.fn=f/\i.kind=.normal->P.funcs[i.fn]? = some c->bD P (results c i.tmps) (λv _ o=>(λv o=>∃u J:Hp,o=u.join J/\u.Comp J/\v=v0) v o) false H->Reach P (pT P f c t v0) i [] H:=by intro i H Q R S a3 M;rw[Ng j,Zi]at M;obtain⟨_,_,_,_,hv⟩:=M;exact .stop ⟨rfl,Q,R,S,a3,j,hv⟩
 refine B (pT P f c t v0) _ [] [] (pT.closed _ _ _ _ _) ⟨by simp[Frame.enter],λ_=>G,λh=>by simp only[norace,Frame.enter,g,Option.any_some];exact h⟩ ?_;intro e a o p;cases e with
 | normal=>
  refine .pure (dN:={ on (Frame.enter P f args.toArray .normal) a []with mode:=.returning }) (dH:=[]) (λmain w=>Ai G) ?_;exact Nb (pT.closed _ _ _ _ _) l _ _ _ rfl rfl ⟨rfl,rfl⟩ g p
 | ret=>
  intro k';refine .pure (dN:={ on (Frame.enter P f args.toArray .normal) a (.code .ret :: k')with mode:=.returning }) (dH:=[]) (λmain w=>Aj G) ?_;exact Nb (pT.closed _ _ _ _ _) l _ _ _ rfl rfl ⟨rfl,rfl⟩ g p
 | exit id=>exact p.elim
open Go.Conc (Knows Deaf touchAt QuitsD crowd woken Leavers Past)
def lP(w:World):Hp:=⟨λb=>(w.heap[b]?).map λo=>(o,false),[]⟩
theorem FF(w:World)(b:Nat):lP w b=(w.heap[b]?).map λo=>(o,false):=rfl
def Zqy(w:World):(lP w).le w:=λb o p h=>by rw[FF]at h;obtain⟨x,c,a⟩:=qAk.1 h;simp only[qAL]at a;rw[c,a.1]
structure KJ(W W':World):Prop where
 os:Go.ConcM.OsLater W.os W'.os
 tape:W'.tape=W.tape
 out:W'.output=W.output
 size:W.heap.size<=W'.heap.size
 heap:∀b,b<W.heap.size->W'.heap[b]? = W.heap[b]?
def Zqn{p:Program}{args:Array Value}{W:World}(E:p.inits.idxOf? f=none)(h:Reach (vX p) (pT p f fn t v0) (Frame.enter p f args .normal) [] (lP W)) :
  ∃M c o e L,runNT p (M+1) (Go.Conc.solo (Go.Conc.G (Frame.enter p f args .normal) []) W) #[]=(.ended o e,L)/\runN p M (Go.Conc.solo (Go.Conc.G (Frame.enter p f args .normal) []) W)=.next c /\
   step p c=.ended o e/\Go.Conc.Good p (λv z=>v=v0/\KJ W z) c o e L:=by
 have I:=Zqp (P:=vX p) rfl h
 have u:eV p (lP W) #[bO (Frame.enter p f args .normal) []] W #[] (λ_=>0):=by refine⟨Go.Conc.leavers_one p _,?_,Zqy W⟩;exact⟨λsaid=>by rintro⟨i,j,_,⟨a,b,u,_⟩,_⟩;simp[Trace.act?]at u,λi a u=>by simp[touchAt,Trace.act?]at u,λi g hg=>by simp[Trace.g?]at hg,rfl,by simp⟩
 obtain⟨k,B,e,K,L,q',H',l,S,O,h2,Q,r,h5⟩:=I _ W none #[] _ u rfl
 obtain⟨rfl,Z,g2,⟨g3,A⟩,g4,g5,g6⟩:=h5
 have n:∀q,Go.Conc.AtRel e q->KJ W q:=by rintro q ⟨d,rfl⟩;exact⟨r.out.os,r.out.tape,r.out.out,r.grown,λb hb=>r.keep b hb λo R=>by rw[FF]at R;obtain⟨x,_,he⟩:=qAk.1 R;simp at he⟩
 have w:Go.Conc.Goes p true Go.Conc.AtRel (λ_ _ _=>False) (Go.Conc.AtEnd p (yP H' e.heap.size) e.heap.size (λv z=>v=v0/\KJ W z)) 0 (bO l []) e:=by
  intro q J;refine⟨rfl,v0,#[],?_,by simp,rfl,n q J⟩;have hr:(results fn l.tmps).runT p q #[]=(.ok v0 q,#[]):=by rw[Ng g5,g6];rfl
  have y:p.inits.idxOf? l.fn=none:=by rw[g3];exact E
  simp only[bO,stepG,Z,unwind,g2,g4,hr,GStep.after,doReturn,A,qAg,y];simp[seen]
 obtain⟨N,c,o,w2,t2,T,U,V,Y⟩:=Go.Conc.beside_ends (D:=λ_ _ _=>False) (λ_ _ _ h=>h.elim) h2 Q.leavers Q.past w
 refine⟨k+N,c,o,w2,t2,?_,?_,V,Y⟩
 ·have:=FH O T;rw[qCl];exact this
 ·have F:runN p k (Go.Conc.solo (Go.Conc.G (Frame.enter p f args .normal) []) W)=.next (crowd B e K):=by rw[<-runNT_fst _ _ _ #[]];exact qAQ Prod.fst O
  rw[runN_add,F];exact U
end
end Go.LL
end
open Go Go.LL Go.Conc Go.ConcM
namespace Go.Proofs
section
variable{C:Checked}{os:Os}{f:FuncId}{fn:Func}{s:ChangeSpec}{lV:List PathCond}{apart:Bool}{X:World->Array Value->Prop}
section
variable{H:Type}{enc:TypeId×Value->H}
def ZuP{a:Assume}{F:Stop.Interp}{fresh handsOn:Bool}
  (O:∀(w w':World) (args:Array Value),w.heap=w'.heap->X w args->X w' args)
  (own:ownKnob C.prog.godebug=none) (g:os.Started) (A:C.prog.funcs[f]? = some fn)
  (h:∃(w:World) (tape:Tape) (i:Input),w.os=os/\(w.forCall tape i).Shaped C.prog/\i.vars=[]/\Input.okWide C.prog (w.forCall tape i) .any w.heap.size f i /\
   ((s.pre enc C.prog fn lV apart (w.forCall tape i).memory i.args/\X (w.forCall tape i).memory i.args)/\sizedMet enc C.prog fn (OpenSpec.ofChange s) apart (w.forCall tape i).memory i.args)/\a.holds C.prog (lone (Frame.enter C.prog f i.args .normal) [] (w.forCall tape i)))
  (hY:∀(W:World) (l:Nat) (args:Array Value) (y gs:List (DataW H)) (c:List MemPlace),
   (∀(j:Nat) t v,fn.params[j]? = some t->args[j]? = some v->Value.okWide C.prog W .any l t v) ->
   DataW.Whole enc C.prog fn.params.toList s.vars apart W args.toList y gs c ->
   X W args ->
   ∃M d o w' u,runNT C.prog (M+1) (solo (G (Frame.enter C.prog f args .normal) []) W) #[]=(.ended o w',u)/\runN C.prog M (solo (G (Frame.enter C.prog f args .normal) []) W)=.next d /\
    step C.prog d=.ended o w'/\Conc.Good C.prog (λv E=>s.post enc C.prog fn apart fresh handsOn false W args v { E with os:=W.os }/\OsLater W.os E.os) d o w' u) :
  ReturnsInLeavingWide a C os f .any (λw args=>(s.pre enc C.prog fn lV apart w args/\X w args)/\sizedMet enc C.prog fn (OpenSpec.ofChange s) apart w args) ((OpenSpec.ofChange s).postWith enc C.prog fn F (outsideKept [.timePasses]) apart fresh handsOn):=by
 refine returnsInLeavingWide_of_good own g h ?_;intro w tape i _ _ _ B p r;obtain⟨_,_,_,z,n,_,_,_,_,q⟩:=B;have e:z=fn:=iN (n.symm.trans A);subst e;obtain⟨⟨⟨y,gs,c,Q,Y⟩,R⟩,Z⟩:=p;have D:=DataW.Whole.of_heap (w':=w.forCall tape i) (by rfl) Q;obtain⟨M,d,o,w',u,J,K,L,N⟩:=hY (w.forCall tape i) w.heap.size i.args y gs c q D (O _ _ _ (by rfl) R);obtain⟨v,e,I,S,T,U,V⟩:=N;exact⟨M,d,o,w',u,J,K,L,v,e,postWith_blind (postWith_of_post I.1 I.2),S,T,U,V⟩
def Zo5(c:World)(args:Array Value)(a:Nat)(g:c.os=os)
  (h:(c.forCall (λ_ _=>0) ⟨#[],args,[]⟩).Shaped C.prog)
  (d:Input.okWideB C.prog (c.forCall (λ_ _=>0) ⟨#[],args,[]⟩) f ⟨#[],args,[]⟩=true)
  (e:s.preB enc C.prog fn lV apart (c.forCall (λ_ _=>0) ⟨#[],args,[]⟩).memory args a=true)
  (j:s.sizedB enc C.prog fn apart (c.forCall (λ_ _=>0) ⟨#[],args,[]⟩).memory args a=true)
  (l:X (c.forCall (λ_ _=>0) ⟨#[],args,[]⟩).memory args) :
  ∃(w:World) (tape:Tape) (i:Input),w.os=os/\(w.forCall tape i).Shaped C.prog/\i.vars=[]/\Input.okWide C.prog (w.forCall tape i) .any w.heap.size f i /\
   ((s.pre enc C.prog fn lV apart (w.forCall tape i).memory i.args/\X (w.forCall tape i).memory i.args)/\sizedMet enc C.prog fn (OpenSpec.ofChange s) apart (w.forCall tape i).memory i.args)/\({ calm:=true }:Assume).holds C.prog (lone (Frame.enter C.prog f i.args .normal) [] (w.forCall tape i)):=
 ⟨c,λ_ _=>0,⟨#[],args,[]⟩,g,h,(Input.okWide_of_okWideB (base:=0) d).1,(Input.okWide_of_okWideB d).2,⟨⟨ChangeSpec.pre_of_preB e,l⟩,sizedMet_of_sizedB j⟩,by simp only[Assume.holds];exact⟨by simp,λ_ _ _ _=>rfl,by simp,by simp,by simp⟩⟩
end
def Zph:ownKnob Tryz.prog.godebug=none:=U
def Zpi:laidOutB Tryz.prog=true:=U
def qZ:Tryz.prog.globalNamed "ribband/spile.checks" = some 1:=U
def uF:Tryz.prog.globalNamed "ribband/frame.checks" = some 0:=U
end
open YthmnpenamnoniaaGreatDoor
def pX:(Tryz.prog.globals[1]?).map (·.type)=some 234:=U
def tG:(Tryz.prog.globals[0]?).map (·.type)=some 227:=U
def LA:List (String×DataW Unit):=[("ribband/frame.checks",Rows.laid_ribband_frame_checks),("ribband/spile.checks",Rows.laid_ribband_spile_checks)]
def Zpa(os:Os)(args:Array Value):((World.doorLaid Tryz.prog 600 os).forCall (λ_ _=>0) ⟨#[],args,[]⟩).Shaped Tryz.prog:=World.shaped_of_RefB U U
def ZwF(os:Os)(args:Array Value):laidMetH Tryz.prog LA ((World.doorLaid Tryz.prog 600 os).forCall (λ_ _=>0) ⟨#[],args,[]⟩).memory:=
 laidMetH_of_parts3 (fuel:=8) (laidMet_of_run' 8 U U) U U
