import Derived.Test.YtmfealhfgccmfaaGreatDoorP17
import Derived.Test.YtmfealhfgccmfaaGreatDoorP18
import Derived.Test.YtmfealhfgccmfaaGreatDoorP19
set_option linter.all false
set_option maxHeartbeats 400000
def WL{G:Prop}(h:G:=by
  rintro w _ ⟨rfl,rfl⟩;refine OJ (λh2=>?_) (λh2=>?_)
  ·refine Y ?_;exact⟨rfl,j,rfl,by simp only[qDj,true_iff];rw[qCj];exact⟨l[j],iN mF,h2⟩⟩
  refine Y ?_;refine⟨⟨j+1,O⟩,gI O,⟨rfl,?_⟩,V,trivial,rfl⟩;show(l.take (j+1)).any f=false;rw[BY mF,qDc,xW];simp[h2]):G:=h
def T5{G:Prop}(h:G:=by
  rw[this];refine Ue λQ g H hq=>?_;have N1:P.toProgram.eqGuardType P.toProgram.depth t=false:=by rw[Tz.prog (P:=P)];exact hg
  rw[Zf];unfold eqGuard;simp only[Zf,Zj,qDN,oR,qAq];rw[Vw,Vw,N1];simp only[qCK,qBb,Zj];exact Zf.2 (hE _ _ _ hq)):G:=h
def LO{G:Prop}(h:G:=by have:j=l.length:=O;subst this;rw[qAh]at xW;refine Y ?_;exact⟨rfl,-1,rfl,by simp[xW]⟩):G:=h
def LH{G:Prop}(h:G:=by refine OJ (λh1=>?_) (λh1=>?_)<;>refine Y ?_<;>exact⟨rfl,by simp[Y3,h1]⟩):G:=h
def S4{G:Prop}(h:G:=by rintro w _ ⟨rfl,r,rfl,hr⟩;refine Y ?_;refine⟨rfl,?_⟩;show vb (decide (0<=r))=vb _;congr 1;rw[qBQ,qAK];exact hr):G:=h
open Go Go.LL
namespace Go.Proofs
section
open Go.Z
def ZkK:Zc:=aG 3 (.eE 3 [3] 0) (bY 6) (dy 7) (aV 12 3 5 (bR 13) (dv 14) (eI 126 12 13 14) (az 11 15 (dg 16 11) (dh 17 11) (x 18 11 2) (dC (fi 8) (o 9 (.eC 9 [9] [z0,z0,z0,z0])) (fB 8 16) (bo 9 4 17) 10 18)) (S (fj 19 10 (cG 21 10 (bY 6) 7 21)) (aV 22 8 5 (aN 23 9 4) (dv 24) (eI 128 22 23 24) (aa (o 26 (.oL 4 none 25)) (m 6 26) (dy 7)) .ret)))
def Zr2:List Ze:=[(.aW 6),(.aW 7)]
def ZyC:aU Tryz.prog 51 3 ZkK Zr2:=fN [(3,3),(8,8),(9,9)] Tryz.func51
def Zk4:Zc:=de 3 (.eE 3 [3] 0) (du (.raw (.box 45 1) 0)) (o 5 (.raw (.box 3 2) 0)) (bY 6) (dy 7) (eK 11 3 5 (o 12 (.raw (.makeFunc (.func 137) #[] #[4,5]) 254)) 132 11 (m 10 13) (dC (dg 14 10) (dh 15 10) (o 8 (.eC 8 [8] [z0,z0,z0,s0,s0,s0])) (bo 8 6 14) 9 15) (S (fj 16 9 (cG 18 9 (bY 6) 7 18)) (aj [aN 19 8 6,aN 20 8 6,ld 21 4,ld 24 5,(cy 135 20,(some true)),o 23 (.oL 4 (some 4) 22),(o 25 (.raw (.index 159 23 24) 3),(some false)),bC 136 19 25,m 6 26,bY 7] .ret)))
def Zsn:List Ze:=[(.aW 6),(.aW 7)]
def ZyW:aU Tryz.prog 56 3 Zk4 Zsn:=fN [(3,3),(8,8)] Tryz.func56
def ZkY:Zc:=de 3 (.eE 3 [3,31,54,57,58] 0) (o 5 (.eE 5 [5,39,44] 2)) (o 6 (.eC 6 [6] [z0,z0,z0,s0,s0])) (bY 7) [] (aK (cq 12 3 5 (bp 129 12) (am 8 13) (fj 14 8 (ec (bI 16) (fc 17) 6 5 16 7 17))) (aj [bR 18,aN 20 3 5,o 21 (.build [z0,z0,z0,s0,s0] [(0,(5,20))]),(bp 133 18,(some false)),(o 22 (.raw (.call (.mk (.value 19) #[21] #[238])) 39),none),m 9 22] (fj 23 9 (ec (bI 25) (dP 26) 6 5 25 7 26))) (S (cq 27 5 2 (o 28 (.call 143 [27,(k 1),(k 20)])) (bL 29 (.not 28)) (cr 29 (aa (bI 30) (fB 6 30) (ah 7 1)))) (dX 31 3 3 (bR 33) (aF 34 5 32) (ce (o 35 (.fE 1 34)) (bB 2 35) (eR (.eC 10 [10,37,42] [z0,z0])) (bo 10 2 36)) (dX 37 0 10 (fw 39 5) (au 5 39) (a8 (o 41 (.gE (.call (.mk (.builtin .max) #[38,40] #[3,3])) 3)) (f 42 1 10) (au 10 42) (f 44 1 5) (au 5 44) (o 46 (.gE (.call (.mk (.builtin .min) #[43,45] #[3,3])) 3)) (o 47 (.build [z0,z0] [(0,(1,41)),(1,(1,46))])) (o 11 (.eC 11 [11,48,50] [z0,z0])) (ag (bo 11 2 47))) (S (dX 48 0 11 (f 50 1 11) (au 11 50) (ag (ay .gtr 49 51)) (cr 52 (aa (bI 53) (fB 6 53) (ah 7 9)))) (dX 54 3 3 (bp 144 55) (f 57 3 3) (ag (ls 3 1 57 56)) (dX 58 3 3 (bR 60) (aN 61 11 2) (eG (aF 62 5 59) (o 63 (.fE 1 62)) (cJ 31 63 61)) (fa 64 3 5 145 64 (dg 66 65) (dh 67 65) (aI (fB 6 66) 7 67) .ret))))))))
def Zsg:List Ze:=[(.kS 6 6 (some 5)),(.aW 7)]
def ZyQ:aU Tryz.prog 61 3 ZkY Zsg:=fN [(3,3),(5,5),(6,6),(10,10),(11,11),(31,3),(37,10),(39,5),(42,10),(44,5),(48,11),(50,11),(54,3),(57,3),(58,3)] Tryz.func61
def ZkI:Zc:=cz 4 (ci 5 0 1 (cy 104 5) 4 7 [] .ret)
def Zr0:List Ze:=[(.aW 4)]
def ZyA:aU Tryz.prog 66 2 ZkI Zr0:=fN [] Tryz.func66
def n53:Zc:=cz 6 (bm 7 1 0 (eT 7) (aL 9) (dC (bX 10 0) (mt 10 12 2) (gt 10 13 (.fV .leq 11 12)) (bw 10 13) 6 14) .ret)
def r53:List Ze:=[(.aW 6)]
def c53:aU Tryz.prog 71 3 n53 r53:=fN [] Tryz.func71
def Zkq:Zc:=de 3 (.eE 3 [3] 0) (o 6 (.eC 6 [6] [z0,z0,z0,s0,s0])) (o 7 (.eC 7 [7] [z0,z0,z0,z0])) (bY 8) [] (S (cq 13 3 5 (bp 129 13) (am 9 14) (fj 15 9 (ac (bI 17) (eX 18) (dP 19) (fB 6 17) (aI (bo 7 4 18) 8 19)))) (aV 20 3 5 (o 21 (.build [z0,z0,z0,s0,s0] [(0,(5,20))])) (eR (.eC 10 [10] [z0,z0,z0,s0,s0])) (fB 10 21) [] (aK (eK 22 10 5 (bR 23) 192 22 (m 11 24) [] (fj 25 11 (ac (bI 27) (eX 28) (db 29) (fB 6 27) (aI (bo 7 4 28) 8 29)))) (eK 30 10 5 (dv 31) 138 30 (m 12 32) [] (fj 33 12 (ac (bI 35) (eX 36) (dE 37) (fB 6 35) (aI (bo 7 4 36) 8 37)))) (aj [aN 38 10 5,bR 39,(bp 193 39,(some false)),fB 6 38,bo 7 4 40,bY 8] .ret))))
def ZrH:List Ze:=[(.kS 6 6 (some 5)),(.kS 7 7 (some 4)),(.aW 8)]
def Zyi:aU Tryz.prog 126 3 Zkq ZrH:=fN [(3,3),(6,6),(7,7),(10,10)] Tryz.func126
def ZkG:Zc:=bn 2 (.raw (.box 238 0) 0) (o 3 (.raw (.box 320 1) 0)) (aC (du (.raw (.alloc 321) 0)) (bn 5 (.raw (.makeFunc (.func 199) #[] #[2,3,4]) 321) (cJ 321 4 5) (.fK (aa (ld 6 4) (eX 7) (bL 8 (.raw (.call (.mk (.value 6) #[7,(k 0)] #[239,3])) 4))))))
def ZrY:List Ze:=[]
def Zyy:aU Tryz.prog 131 2 ZkG ZrY:=fN [] Tryz.func131
def Zkz:Zc:=bZ 2 (.eE 2 [2,9] 0) 4 (S (sq (am 5 1) (B 0 (af (bk 7 .eql 5 0) (eJ 6) [] (N 6 (aB 4 2 .ret) (dY 9 5 2 10 (ay .eql 5 11) (am 8 12) (bj 8 4 1)))))) (cB 4))
def ZrQ:List Ze:=[(.aW 4)]
def Zyr:aU Tryz.prog 136 2 Zkz ZrQ:=fN [(2,2),(9,2)] Tryz.func136
def Zkw:Zc:=bn 2 (.eE 2 [2] 0) (du (.eC 4 [4] [s0,z0,z0,z0,z0,z0,z0,z0])) (fC 5 1 (aN 6 2 1) (bR 7) (cy 216 6) (eG (eh 8 5 8) (bB 8 9) (bo 4 8 10)))
def ZrN:List Ze:=[(.kS 4 4 (some 8))]
def Zyo:aU Tryz.prog 141 2 Zkw ZrN:=fN [(2,2),(4,4)] Tryz.func141
def Zkn:Zc:=bn 1 (.raw (.box 238 0) 0) (o 2 (.raw (.alloc 4) 0)) (S (af (lm 3 5 1) (du (.raw (.makeFunc (.func 131) #[3] #[]) 249)) [] (B 0 (.nZ 4 [5] .skip (B 1 (sq [u (.raw (.store 4 2 k1) 0)] .ret))))) (dM (u (.raw (.store 4 2 k0) 0))))
def ZrE:List Ze:=[(.mem 2 none)]
def Zyf:aU Tryz.prog 146 1 Zkn ZrE:=fN [] Tryz.func146
def Zkj:Zc:=bJ 2 (eV 3 0 (aO 3) 2 .ret)
def ZrA:List Ze:=[(.aW 2)]
def Zyb:aU Tryz.prog 151 1 Zkj ZrA:=fN [] Tryz.func151
def Zkh:Zc:=bJ 2 (aK (cS 6 0 (aO 6) 8 (.call 71 [7,(k 1),(k 4)]) (o 9 (.not 8)) [] (eS 9 2)) (dd 3 0 13 10 3 (bg 11) (aO 11) (ba 10 12) [] 1 (aK (dk 16 0 (dm 17) (aF 18 5 16) (bB 5 18) (aD (du (.eC 4 [4,20,34,37,42,43,45,46,52,58] [(.string (.mk #[])),z0,z0,z0,z0])) (fB 4 19))) (dX 20 0 4 (bp 178 21) (o 23 (.not 22)) [] (eS 23 4)) (S (bJ 5 (bt 2 26 (aa (di 24) (dm 25) (bQ 24 25)) 3 (aj [bg 29,di 30,aF 31 5 29,o 32 (.fE 0 31),aJ 32,fw 34 4,au 4 34,o 36 (.gE (.binOp .eql 9 33 35 9) 4)] (eS 36 5)) 27 28 5)) (aX 37 1 4 (l 38 4 2 37) (o 39 (.call 72 [38,(k 1),(k 20)])) (o 40 (.not 39)) (fh 40 (dq 41 (.fH 1 4)) (gf 41 43 (.fH 1 42)) (gf 41 44 (.gO 4 none 43)) (fA (gf 41 45 (.fH 1 4)) (gf 41 46 (.fH 0 45)) (gf 41 47 (.gO 4 none 46)) (gf 41 48 (.fV .sub 44 47)) 41 49 (.fV .geq 48 (k 3)) (bA 41 49) (aL 50) (dq 51 (.fH 3 4)) (ac (gf 51 53 (.gO 4 none 52)) (gf 51 54 (.call 71 [53,(k 1),(k 20)])) (gf 51 55 (.not 54)) (bA 51 55) (fh 56 (dq 57 (.fH 4 4)) (gf 57 59 (.gO 4 none 58)) (gf 57 60 (.call 71 [59,(k 1),(k 20)])) (aD (gf 57 61 (.not 60)) (bA 57 61)))))) (eS 62 1)))) 14 15 3) (cB 2))
def Zry:List Ze:=[(.aW 2)]
def Zx9:aU Tryz.prog 161 1 Zkh Zry:=fN [(4,4),(20,4),(34,4),(37,4),(42,4),(43,4),(45,4),(46,4),(52,4),(58,4)] Tryz.func161
def ZjY:Zc:=dk 4 0 (bg 5) (aO 5) (bR 7) (ag (eI 262 4 6 7))
def Zrd:List Ze:=[]
def ZxQ:aU Tryz.prog 196 2 ZjY Zrd:=fN [] Tryz.func196
def Zkb:Zc:=bZ 2 (.eE 2 [2] 0) 3 (S (eK 4 2 5 (ld 5 1) 202 4 (o 7 (.not 6)) [] (bj 7 3 6)) (cB 3))
def Zrr:List Ze:=[(.aW 3)]
def Zx3:aU Tryz.prog 201 2 Zkb Zrr:=fN [(2,2)] Tryz.func201
def Zj5:Zc:=cz 4 (bm 5 0 1 (cy 266 5) (ax .geq 7 0) (am 4 8) .ret)
def Zrl:List Ze:=[(.aW 4)]
def ZxX:aU Tryz.prog 206 2 Zj5 Zrl:=fN [] Tryz.func206
def Zj0:Zc:=bZ 2 (.eE 2 [2,12,19] 0) 4 (bJ 5 (dO 7 1 (aO 7) (dy 9) (cX 0 10 10 9 8 1 (cO 11 9 6 (aj [dB 12 0,dw 12,bR 14,dW 15,fq 16 14,bB 8 16,dB 19 0,dw 19,bR 21,di 22,fq 23 21,bB 8 23,(o 18 (.raw (.call (.mk (.value 13) #[17] #[258])) 3),(some true)),(o 25 (.raw (.call (.mk (.value 20) #[24] #[258])) 3),none),ba 18 25] (bF 26 (aI (dW 27) 5 27)))) 28 9 1 9 28) (eH 29 5 4)))
def Zrf:List Ze:=[(.aW 4)]
def ZxS:aU Tryz.prog 216 2 Zj0 Zrf:=fN [(2,2),(12,2),(19,2)] Tryz.func216
def Zjb:Zc:=ci 11 2 1 (dD 11) 6 13 [] (bx 14 6 .geq 14 8 (aE 15 (cS 16 6 (o 17 (.gE (.convert 3 408 16) 408)) 7 (.raw (.alloc 408) 0) (cJ 408 7 17) [] (eV 18 6 (bp 301 18) 8 (bm 20 1 6 (o 22 (.gE (.binOp .quo 3 21 (k 4) 3) 3)) (ax .mul 22 2) (aY (eu 20 23) (cZ 24) 9 25) (bM 0 33 26 9 (bR 27) (dW 28) (o 29 (.gE (.binOp .quo 3 28 (k 4) 3) 3)) (ce (ax .mul 29 2) (eu 27 30) (eD 31) (ay .leq 26 32)) 1 (ae (c1 36 302 7) (fc 37) (o 38 (.fV .sub 37 (lW 1))) (o 39 (.gE (.binOp .and 286 36 38 286) 286)) (aI (o 40 (.gE (.convert 286 3 39) 3)) 10 40) (dO 41 10 (dW 42) (ag (bD .geq 41)) (bF 43 (az 44 10 (dW 45) (dD 44) (m 10 46) [])) (.drawn [bg 47,dP 48,bg 49,bR 50,dz 51,dT 50,bg 53,bR 54,dz 55,dT 54,eh 1 53 56,aJ 57,bg 59,dP 60,cH 61 59,aJ 61,cH 63 47,(cJ 3 63 58,(some false)),ia 64 1 49 52,cJ 3 64 62]))) 34 35 9))))))
def Zqo:List Ze:=[]
def Zw3:aU Tryz.prog 226 3 Zjb Zqo:=fN [] Tryz.func226
def Zi6:Zc:=bJ 8 (aj [bg 11,bR 12,bg 13,dm 14,bg 15,dm 16,cH 17 15,aJ 17,bg 19,bR 20,cH 21 19,aJ 21,cH 23 11,(cJ 3 23 18,(some false)),cH 24 13,cJ 3 24 22] (an 25 1 (eD 25) (dv 27) (cZ 27) (aI (m 9 26) 10 28) (S (bH 0 (B 1 (aK (bH 2 (ez [dP 29,dz 30,eT 29,aL 31,bX 32 0,mt 32 34 1,gt 32 35 (.gC 1 33 34),gt 32 36 (.ld none 35),mt 32 37 0,mt 32 38 9,gt 32 39 (.gC 1 37 38),gt 32 40 (.ld none 39),gt 32 41 (.call 230 [36,40]),gt 32 42 (.not 41),bw 32 42] (dH 43 2) (B 3 (ic 44 45 9)))) (bH 4 (ez [dP 46,dz 47,eT 46,aL 48,bX 49 0,mt 49 51 1,gt 49 52 (.gC 1 50 51),gt 49 53 (.ld none 52),mt 49 54 0,mt 49 55 10,gt 49 56 (.gC 1 54 55),gt 49 57 (.ld none 56),gt 49 58 (.call 230 [53,57]),bw 49 58] (dH 59 4) (B 5 (eU 60 10 60 10 61)))) (dO 62 9 (dz 63) (ag (bD .gtr 62)) (aE 64 (.exit 0)) (aj [bg 65,dP 66,bg 67,dz 68,bg 69,dz 70,cH 71 69,aJ 71,bg 73,dP 74,cH 75 73,aJ 75,cH 77 65,(cJ 3 77 72,(some false)),cH 78 67,cJ 3 78 76] (eV 79 9 (eD 79) 9 (eU 81 10 81 10 82))))))) (eH 83 9 8))))
def Zqj:List Ze:=[(.aW 8)]
def ZwY:aU Tryz.prog 231 4 Zi6 Zqj:=fN [] Tryz.func231
def ZkR:Zc:=cz 4 (S (dd 5 0 9 6 5 (bg 7) (aO 7) (ba 6 8) [] 1 (bm 12 1 0 (di 14) (cH 15 13) (aa (aJ 15) (bC 306 12 16) (bL 18 (.not 17))) (cj 18 4)) 10 11 5) (dM (m1 4)))
def Zr9:List Ze:=[(.aW 4)]
def ZyJ:aU Tryz.prog 236 2 ZkR Zr9:=fN [] Tryz.func236
def ZjS:Zc:=cz 6 (bm 7 1 0 (eT 7) (aL 9) (dC (bX 10 0) (mt 10 12 2) (gt 10 13 (.fV .leq 11 12)) (bw 10 13) 6 14) .ret)
def Zq7:List Ze:=[(.aW 6)]
def ZxK:aU Tryz.prog 261 3 ZjS Zq7:=fN [] Tryz.func261
def ZjO:Zc:=bJ 4 (dO 6 0 (aO 6) (dy 8) (cX 0 9 9 8 7 1 (cO 10 8 5 (bm 11 1 0 (di 13) (cH 14 12) (aD (aJ 14) (ay .eql 11 15)) (cr 16 (aI (di 17) 4 17)))) 18 8 1 8 18) (dM (aP 4)))
def Zq3:List Ze:=[(.aW 4)]
def ZxG:aU Tryz.prog 266 2 ZjO Zq3:=fN [] Tryz.func266
def ZiZ:Zc:=cO 10 1 8 (bH 0 (B 1 (an 11 8 (o 12 (.fV .mul (k 2) 11)) (eD 12) (m 9 13) [] (aK (ao 14 9 (dv 15) (ag (bD .geq 14)) (aE 16 (.exit 0))) (aj [dP 17,eD 17,dv 19,ba 18 19,aL 20,bX 21 0,mt 21 23 3,mt 21 24 9,gt 21 25 (.fV .add 23 24),gt 21 26 (.gC 1 22 25),gt 21 27 (.ld none 26),mt 21 28 0,mt 21 29 3,mt 21 30 9,gt 21 31 (.fV .add 29 30),gt 21 32 (.fV .add 31 (k 1)),gt 21 33 (.gC 1 28 32),gt 21 34 (.ld none 33),gt 21 35 (.call 230 [27,34]),bw 21 35] (aE 36 (ic 37 38 9))) (ez [bg 39,dm 40,fc 41,dT 40,eh 1 39 42,aJ 43,bg 45,dm 46,dP 47,dT 46,eh 1 45 48,aJ 49,bC 230 44 50,o 52 (.not 51)] (aE 52 .ret) (aj [(bg 53,none),(dm 54,none),(fc 55,none),(dT 54,none),(bg 57,none),(dm 58,none),(dP 59,none),(dT 58,none),(bg 61,none),(dm 62,none),(dP 63,none),(dT 62,none),(eh 1 61 64,none),(aJ 65,none),(bg 67,none),(dm 68,none),(fc 69,none),(dT 68,none),(eh 1 67 70,none),(aJ 71,none),(ia 73 1 53 56,none),(cJ 3 73 66,(some false)),(ia 74 1 57 60,none),(cJ 3 74 72,none)] (.fK (aI (dP 75) 8 75))))))))
def Zqd:List Ze:=[]
def ZwR:aU Tryz.prog 300 4 ZiZ Zqd:=fN [] Tryz.func300
def ZkT:Zc:=bn 1 (.eE 1 [1,10,23] 0) (al 2) (eO 8 (fc 3) (S (dd 4 0 13 9 4 (eZ 10 3) (dN 10) (aO 11) (bQ 9 12) 1 (dJ 5 (S (dd 6 2 19 16 6 (dm 17) (aO 17) (ba 16 18) [] 3 (dd 7 4 26 22 7 (eZ 23 3) (dN 23) (aO 24) (bQ 22 25) 5 (bm 29 3 6 (cH 31 29) (aJ 31) (aa (eJ 33) (cy 306 32) (bL 35 (.not 34))) (bF 35 (az 36 5 (ff 37) (dm 38) (dW 39) (a8 (cH 40 38) (aJ 40) (o 42 (.raw (.call (.mk (.builtin .append) #[37,41] #[45,45])) 45)) (eJ 43) (o 44 (.fJ 3 1 [z0] [(0,(1,43))])) (o 45 (.raw (.call (.mk (.builtin .append) #[42,44] #[45,45])) 45)) (o 46 (.fJ 45 1 [s0] [(0,(1,45))])) (o 47 (.raw (.call (.mk (.builtin .append) #[36,46] #[57,57])) 57)) (am 5 47))))) 27 28 7) 20 21 6) (.fK (aI (di 48) 3 48)))) 14 15 4) (eH 49 3 2)))
def Zsb:List Ze:=[(.aW 2)]
def ZyL:aU Tryz.prog 305 1 ZkT Zsb:=fN [(1,1),(10,1),(23,1)] Tryz.func305
def ZjC:Zc:=eV 10 1 (eD 10) 8 (bt 0 14 (aa (fc 12) (dv 13) (bQ 12 13)) 1 (cO 17 8 9 (bH 2 (aK (aj [dP 18,bR 19,bD .gtr 18,aL 20,bX 21 3,mt 21 23 0,mt 21 24 9,gt 21 25 (.gC 1 23 24),gt 21 26 (.ld none 25),mt 21 27 0,mt 21 28 9,gt 21 29 (.fV .sub 28 (k 1)),gt 21 30 (.gC 1 27 29),gt 21 31 (.ld none 30),(gt 21 32 (.raw (.call (.mk (.value 22) #[26,31] #[3,3])) 3),none),gt 21 33 (.fV .lss 32 (k 0)),bw 21 33] (dH 34 2)) (B 3 (.drawn [bg 37,dP 38,bg 39,dP 40,cZ 40,bg 42,dP 43,cZ 43,eh 1 42 44,aJ 45,bg 47,dP 48,cH 49 47,aJ 49,cH 51 37,(cJ 3 51 46,(some false)),ia 52 1 39 41,cJ 3 52 50])) (eU 35 9 35 9 36)))) 15 16 8)
def ZqO:List Ze:=[]
def Zxu:aU Tryz.prog 325 4 ZjC ZqO:=fN [] Tryz.func325
def ZjI:Zc:=ci 13 2 1 (dD 13) 8 15 [] (bx 16 8 .geq 16 8 (aE 17 (cS 18 8 (o 19 (.gE (.convert 3 408 18) 408)) 9 (.raw (.alloc 408) 0) (cJ 408 9 19) [] (eV 20 8 (bp 301 20) 10 (bm 22 1 8 (o 24 (.gE (.binOp .quo 3 23 (k 4) 3) 3)) (ax .mul 24 2) (aY (eu 22 25) (cZ 26) 11 27) (bM 0 35 28 11 (bR 29) (fc 30) (o 31 (.gE (.binOp .quo 3 30 (k 4) 3) 3)) (ce (ax .mul 31 2) (eu 29 32) (eD 33) (ay .leq 28 34)) 1 (ae (c1 38 302 9) (dz 39) (o 40 (.fV .sub 39 (lW 1))) (o 41 (.gE (.binOp .and 286 38 40 286) 286)) (aI (o 42 (.gE (.convert 286 3 41) 3)) 12 42) (dO 43 12 (fc 44) (ag (bD .geq 43)) (bF 45 (az 46 12 (fc 47) (dD 46) (m 12 48) [])) (.drawn [bg 49,db 50,bg 51,bR 52,dE 53,dT 52,bg 55,bR 56,dE 57,dT 56,eh 8 55 58,bB 8 59,bg 61,db 62,fq 63 61,bB 8 63,fq 65 49,(eM 65 60,(some false)),ia 66 8 51 54,eM 66 64]))) 36 37 11))))))
def ZqU:List Ze:=[]
def ZxA:aU Tryz.prog 339 4 ZjI ZqU:=fN [] Tryz.func339
def ZjD:Zc:=af (bY 10) (m0 11) [] (aj [bg 14,bR 15,bg 16,dm 17,bg 18,dm 19,fq 20 18,bB 8 20,bg 22,bR 23,fq 24 22,bB 8 24,fq 26 14,(eM 26 21,(some false)),fq 27 16,eM 27 25] (an 28 1 (eD 28) (dv 30) (cZ 30) (aI (m 12 29) 13 31) (aK (bH 0 (ez [dE 32,m 33 13,eT 32,aL 34,bX 35 4,mt 35 37 0,mt 35 38 12,gt 35 39 (.gC 8 37 38),gt 35 40 (.ld (some 8) 39),mt 35 41 0,mt 35 42 1,gt 35 43 (.gC 8 41 42),gt 35 44 (.ld (some 8) 43),(gt 35 45 (.raw (.call (.mk (.value 36) #[40,44] #[258,258])) 3),none),gt 35 46 (.fV .lss 45 (k 0)),bw 35 46] (dH 47 0) (B 1 (ic 48 49 12)))) (bH 2 (ez [dE 50,m 51 13,eT 50,aL 52,bX 53 4,mt 53 55 0,mt 53 56 13,gt 53 57 (.gC 8 55 56),gt 53 58 (.ld (some 8) 57),mt 53 59 0,mt 53 60 1,gt 53 61 (.gC 8 59 60),gt 53 62 (.ld (some 8) 61),(gt 53 63 (.raw (.call (.mk (.value 54) #[58,62] #[258,258])) 3),none),gt 53 64 (.fV .lss 63 (k 0)),gt 53 65 (.not 64),bw 53 65] (dH 66 2) (B 3 (eU 67 13 67 13 68)))) (dO 69 12 (m 70 13) (ag (bD .gtr 69)) (aE 71 (aj [bg 72,m 73 13,bg 74,bR 75,bg 76,bR 77,fq 78 76,bB 8 78,bg 80,m 81 13,fq 82 80,bB 8 82,fq 84 72,(eM 84 79,(some false)),fq 85 74,eM 85 83] (ao 86 13 (m 10 86) (ag (m1 11)) .ret))) (aj [bg 87,dE 88,bg 89,m 90 13,bg 91,m 92 13,fq 93 91,bB 8 93,bg 95,dE 96,fq 97 95,bB 8 97,fq 99 87,(eM 99 94,(some false)),fq 100 89,eM 100 98] (eV 101 12 (eD 101) 12 (eV 103 13 (cZ 103) 13 (S (bH 4 (B 5 (aK (bH 6 (ez [dE 105,m 106 13,eT 105,aL 107,bX 108 4,mt 108 110 0,mt 108 111 12,gt 108 112 (.gC 8 110 111),gt 108 113 (.ld (some 8) 112),mt 108 114 0,mt 108 115 1,gt 108 116 (.gC 8 114 115),gt 108 117 (.ld (some 8) 116),(gt 108 118 (.raw (.call (.mk (.value 109) #[113,117] #[258,258])) 3),none),gt 108 119 (.fV .lss 118 (k 0)),bw 108 119] (dH 120 6) (B 7 (ic 121 122 12)))) (bH 8 (ez [dE 123,m 124 13,eT 123,aL 125,bX 126 4,mt 126 128 0,mt 126 129 13,gt 126 130 (.gC 8 128 129),gt 126 131 (.ld (some 8) 130),mt 126 132 0,mt 126 133 1,gt 126 134 (.gC 8 132 133),gt 126 135 (.ld (some 8) 134),(gt 126 136 (.raw (.call (.mk (.value 127) #[131,135] #[258,258])) 3),none),gt 126 137 (.fV .lss 136 (k 0)),gt 126 138 (.not 137),bw 126 138] (dH 139 8) (B 9 (eU 140 13 140 13 141)))) (dO 142 12 (m 143 13) (ag (bD .gtr 142)) (aE 144 (.exit 4)) (aj [bg 145,dE 146,bg 147,m 148 13,bg 149,m 150 13,fq 151 149,bB 8 151,bg 153,dE 154,fq 155 153,bB 8 155,fq 157 145,(eM 157 152,(some false)),fq 158 147,eM 158 156] (eV 159 12 (eD 159) 12 (eU 161 13 161 13 162))))))) (aj [bg 163,m 164 13,bg 165,bR 166,bg 167,bR 168,fq 169 167,bB 8 169,bg 171,m 172 13,fq 173 171,bB 8 173,fq 175 163,(eM 175 170,(some false)),fq 176 165,eM 176 174] (ao 177 13 (m 10 177) (ag (m0 11)) .ret))))))))))
def ZqP:List Ze:=[(.aW 10),(.aW 11)]
def Zxv:aU Tryz.prog 344 5 ZjD ZqP:=fN [] Tryz.func344
def ZiT:Zc:=af (bY 8) (bY 9) [] (ez [bg 10,dv 11,cH 12 10,aJ 12,bg 14,bR 15,cH 16 14,aJ 16,bC 230 13 17] (aE 18 (an 19 3 (o 20 (.gE (.nilCheck 19) 0)) (aJ 20) (eD 21) (aD (o 23 (.gE (.nilCheck 19) 0)) (cJ 3 23 22)) (ci 24 2 1 (m 8 24) 9 25 [] .ret))) (ci 26 1 2 (m 8 26) 9 27 [] .ret))
def Zp7:List Ze:=[(.aW 8),(.aW 9)]
def ZwL:aU Tryz.prog 349 4 ZiT Zp7:=fN [] Tryz.func349
def Zjz:Zc:=bJ 12 (ci 14 0 1 (dv 16) 17 4 (az 18 5 (o 19 (.call 371 [14,15,16,17,18])) (m 13 19) (dg 20 13) (aY (dh 21 13) (m 1 20) 2 21)) (ci 23 0 2 (dm 25) 26 4 (az 27 5 (o 28 (.call 371 [23,24,25,26,27])) (m 22 28) (dg 29 22) (aY (dh 30 22) (m 2 29) 3 30)) (ci 32 0 1 (dv 34) 35 4 (az 36 5 (o 37 (.call 371 [32,33,34,35,36])) (m 31 37) (dg 38 31) (aY (dh 39 31) (m 1 38) 2 39)) (eH 40 2 12))))
def ZqL:List Ze:=[(.aW 12)]
def Zxr:aU Tryz.prog 366 6 Zjz ZqL:=fN [] Tryz.func366
def Zjy:Zc:=af (bY 10) (bY 11) [] (ez [fx 12,bg 13,dv 14,fq 15 13,bB 8 15,bg 17,bR 18,fq 19 17,bB 8 19,(o 21 (.raw (.call (.mk (.value 12) #[16,20] #[258,258])) 3),none),fu 21 0] (aE 22 (an 23 3 (o 24 (.gE (.nilCheck 23) 0)) (aJ 24) (eD 25) (aD (o 27 (.gE (.nilCheck 23) 0)) (cJ 3 27 26)) (ci 28 2 1 (m 10 28) 11 29 [] .ret))) (ci 30 1 2 (m 10 30) 11 31 [] .ret))
def ZqK:List Ze:=[(.aW 10),(.aW 11)]
def Zxq:aU Tryz.prog 371 5 Zjy ZqK:=fN [] Tryz.func371
def Zjw:Zc:=bZ 1 (.eE 1 [1,5,6,11,12,26,27] 0) 2 (aK (dS 5 0 1 3 5 (dN 6) (aO 7) (aD (o 9 (.call 261 [8,(k 1),(k 4)])) (eR (.not 9))) (eS 10 2)) (dS 11 0 1 3 11 (dN 12) (aO 13) (dy 15) (cX 0 16 16 15 14 1 (an 17 15 (ia 18 5 13 15) (bB 5 18) (du (.raw (.alloc 236) 0)) (aD (m 3 17) (cJ 236 4 19)) (B 2 (de 21 (.fE 0 4) (aJ 21) (bp 411 22) (o 24 (.not 23)) (am 20 24) (N 20 (aB 2 4 .ret) (dS 26 0 1 3 26 (dN 27) (dm 29) (cm (o 30 (.gE (.slice 22 28 none (some 29) none) 22)) (o 31 (.raw (.makeFunc (.func 413) #[] #[4]) 487)) (cy 412 30) 25 32) (N 25 (aB 2 5 .ret) (de 34 (.fE 1 4) (bB 2 34) (o 36 (.call 143 [35,(k 1),(k 20)])) (o 37 (.not 36)) (fh 37 (dq 38 (.fE 1 4)) (gf 38 40 (.fE 1 39)) (gf 38 41 (.ld none 40)) (fA (gf 38 42 (.fE 1 4)) (gf 38 43 (.fE 0 42)) (gf 38 44 (.ld none 43)) (gf 38 45 (.fV .sub 41 44)) 38 46 (.fV .geq 45 (k 3)) (bA 38 46) (aL 47) (dq 48 (.fE 3 4)) (ac (gf 48 50 (.ld none 49)) (gf 48 51 (.call 261 [50,(k 1),(k 20)])) (gf 48 52 (.not 51)) (bA 48 52) (fh 53 (dq 54 (.fE 4 4)) (gf 54 56 (.ld none 55)) (gf 54 57 (.call 261 [56,(k 1),(k 20)])) (aY (gf 54 58 (.not 57)) (bA 54 58) 33 59))))) (eS 33 1)))))))) 60 15 1 15 60)) (cB 2))
def ZqI:List Ze:=[(.aW 2)]
def Zxo:aU Tryz.prog 409 1 Zjw ZqI:=fN [(1,1),(5,1),(6,1),(11,1),(12,1),(26,1),(27,1)] Tryz.func409
def Zjr:Zc:=bJ 4 (dO 6 0 (aO 6) (dy 8) (cX 0 9 9 8 7 1 (cO 10 8 5 (bm 11 1 0 (di 13) (aF 14 5 12) (aD (bB 5 14) (o 16 (.raw (.call (.mk (.value 11) #[15] #[236])) 4))) (cr 16 (aI (di 17) 4 17)))) 18 8 1 8 18) (dM (aP 4)))
def ZqD:List Ze:=[(.aW 4)]
def Zxj:aU Tryz.prog 414 2 Zjr ZqD:=fN [] Tryz.func414
end
variable{α:Type}{j i r c gQ n t1 o1 o2 off:Nat}{E E2 sT Iu T t e:TypeId}{b b2 b':Option Nat}{o:Obj}{zv w fv:Value}{a:Int}{cs:List Value}{xs:List (List Value)}{f:Int->Bool}{l:List Int}{p:Program}{n1 n2:String}{ys:Array Value}
section
variable{P:fP}[Tz P]{H:Hp}
def O2(n k h:Int):LL.Zb P 71 #[vi n,vi k,vi h] H λv q=>H=q/\v=vb (decide (k<=n/\n<=h)):=by refine aU.m (fO c53) rfl ?_;unfold n53;exact LH
end
def CI{l:List α}(h:j<l.length):l.drop j=l[j] :: l.drop (j+1):=qCv h
structure N4 where
 (a b c d:Int)
def N4.get(n:N4):Nat->Int
 | 0=>n.a
 | 1=>n.b
 | 2=>n.c
 | _=>n.d
def N4.of(f:Nat->Int):N4:=⟨f 0,f 1,f 2,f 3⟩
theorem N4.o0(f:Nat->Int)(h:j<4):(N4.of f).get j=f j:=by
 match j,h with
 | 0,_=>rfl
 | 1,_=>rfl
 | 2,_=>rfl
 | 3,_=>rfl
theorem N4.ext'{m n:N4}(h:∀j,j<4->m.get j=n.get j):m=n:=by
 cases m;cases n
 have k:=h 0 O;have q:=h 1 O;have s:=h 2 O;have u:=h 3 O;simp only[N4.get]at k q s u;subst k q s u;rfl
def N4.cells(n:N4):List Value:=[vi n.a,vi n.b,vi n.c,vi n.d]
def ZI(n:N4):Value:=.agg #[vi n.a,vi n.b,vi n.c,vi n.d]
theorem Kg(n:N4)(h:j<4):n.cells[0+j * 1]? = some (vi (n.get j)):=by
 match j,h with
 | 0,_=>rfl
 | 1,_=>rfl
 | 2,_=>rfl
 | 3,_=>rfl
def N4.put(n:N4)(j:Nat)(v:Int):N4:=N4.of λi=>if i=j then v else n.get i
theorem HI(n:N4)(v:Int)(h:j<4):ZR n.cells (0+j * 1) [vi v]=(n.put j v).cells:=by
 match j,h with
 | 0,_=>rfl
 | 1,_=>rfl
 | 2,_=>rfl
 | 3,_=>rfl
def N4.iC(n:N4)(v:Int)(h:i<4):(n.put j v).get i=if i=j then v else n.get i:=N4.o0 _ h
theorem N4.n8(n:N4)(v w:Int):(n.put j v).put j w=n.put j w:=by refine N4.ext' λi h=>?_;rw[N4.iC _ _ h,N4.iC _ _ h,N4.iC _ _ h];split<;>rfl
def yX[Enc α](l h:List α):Zd (l++h)=Zd l++Zd h:=by simp[Zd]
structure gL{α:Type}[Enc α](H0 H:Hp)(E:TypeId)(v:Value)(l:List α)(b:Option Nat):Prop where
 own:l9 H E (Enc.sz α) v (Zd l) l.length b
 fresh:∀r,b=some r->H0 r=none
def gL.nil[Enc α](k H:Hp)(E:TypeId):gL k H E (.slice none 0 0) ([]:List α) none:=⟨.nil H E _,λr h=>by simp at h⟩
def gL.sl[Enc α]{H0 H:Hp}{v:Value}{l:List α}(h:gL H0 H E v l b):dF H v l:=by obtain⟨A,c,k,m⟩:=h.own.cells;exact⟨A,c,k,λq=>m (by simpa using q)⟩
def gL.ins[Enc α]{k H:Hp}{v:Value}{l:List α}(h:gL k H E v l b)(q:H r=none):gL k (H.ins r o) E v l b:=
 ⟨h.own.sub λc y _ m=>(YB q).mem c y m,h.fresh⟩
def k8(b b2:Option Nat):Prop:=∀r,b=some r->b2≠some r
def k8.none(b:Option Nat):k8 none b:=λr h=>by simp at h
def k8.symm(h:k8 b b2):k8 b2 b:=λr k m=>h r m k
def ZmP{h H m:Hp}(q:h.Sub H)(s:∀r,b=some r->h r=none)(c:CM H m b b'):h.Sub m:=
 ⟨λd y k=>c.keep d y (q.mem d y k) (λe=>by rw[s d e]at k;simp at k),c.gh.trans q.gh⟩
def gL.pI{β:Type}[Enc α][Enc β]{m H k:Hp}{v B:Value}{l:List α}{A:List β}(_h:gL m H E v l b)(s:gL m H E2 B A b2)(z:k8 b b2)(c:CM H k b b'):gL m k E2 B A b2/\k8 b' b2:=by
 have C:∀d y,b2=some d->H d=some y->k d=some y:=λd y e hd=>c.keep d y hd (λh=>z d h e);refine⟨⟨s.own.sub C,s.fresh⟩,?_⟩;rcases c.new with rfl | ⟨r,rfl,D⟩
 ·exact z
 intro F e h;obtain rfl:=aT e;obtain⟨_,⟨_,_,q⟩ | ⟨G,_,_,q,_,u,_⟩⟩:=s.own
 ·rw[q]at h;simp at h
 rw[q]at h;obtain rfl:=aT h;rw[D]at u;simp at u
def gL.BD[Enc α]{k H q:Hp}{v:Value}{l:List α}(s:k.Sub H)(h:gL k H E v l b)(c:CM H q b b'):∀r,b'=some r->k r=none:=by
 rcases c.new with rfl | ⟨r,rfl,m⟩
 ·exact h.fresh
 intro u e;obtain rfl:=aT e;cases hh:k r with
 | none=>rfl
 | some y=>rw[s.mem r y hh]at m;simp at m
def Z3[Enc α]{H:Hp}{l:List α}:dF (H.ins r (.cells (Zd l).toArray E)) (.slice (some ⟨r,0,none⟩) l.length c) l:=
 ⟨_,_,rfl,λ_=>⟨_,rfl,rfl,_,_,Hp.aQ _ _ _,λj h=>by simp[Obj.nC]⟩⟩
section
variable{P:fP}[Tz P]{H:Hp}{d:Option Nat}{next:fG->Hp->Prop}{σ:fG}{x y:Operand}
def uG[Enc α]{H0:Hp}{s:Value}{l l':List α}(N:P.toProgram.underlying sT=some (.slice E))(F:P.toProgram.underlying Iu=some (.slice E))(Q:TI P.toProgram E (Enc.sz α) zv gQ)(O:zv.cells.size=Enc.sz α)(L:0<Enc.sz α)
  (G:H0.Sub H) (u:gL H0 H E s l b) (V:dF H w l') (R:((Zd l').all Value.gM)=true) (B:l.length+l'.length<=1000000000) (C:gQ<=1000) (J:σ.get x=some s) (K:σ.get y=some w) (D:P.still H.gh=false)
  (h:∀z k b',H0.Sub k->gL H0 k E z (l++l') b'->CM H k b b'->next (σ.set d z) k):(fR.raw (.call { callee:=.builtin .append,args:=#[x,y],argTypes:=#[sT,Iu] }) T).m P d next σ H:=by
 obtain⟨A,c,rfl,S⟩:=V;by_cases M:l'=[]
 ·subst M;refine XZ N F Q O L J K u.own (m:=0) (xs:=[]) (.inl ⟨rfl,A,c,rfl⟩) (by simp) rfl B C D λz k b' I q=>?_;exact h z k b' (ZmP G u.fresh q) ⟨by simpa using I,u.BD G q⟩ q
 obtain⟨a,rfl,U⟩:=S M;refine XZ N F Q O L J K u.own (m:=l'.length) (xs:=Zd l') (.inr ⟨a,c,rfl,U⟩) (Y7 l') R B C D λz k b' I q=>?_;refine h z k b' (ZmP G u.fresh q) ⟨?_,u.BD G q⟩ q;rw[yX,IN];exact I
end
theorem UC(l:List Int):Zd l=l.map vi:=by
 induction l with
 | nil=>rfl
 | cons a l ih=>simp only[Zd,qAI,qBm]at ih ⊢;rw[ih];rfl
def W6(l:List Int):((Zd l).all Value.gM)=true:=by rw[UC];simp[Value.gM]
def XA{H:Hp}{x:Int}:dF (H.ins r (.cells [vi x].toArray E)) (.slice (some ⟨r,0,none⟩) 1 1) [x]:=Z3 (l:=[x])
theorem ZG{l:List α}(h:i<l.length)(x:α):l.getD i x=l[i]:=by rw[qAp,qAZ h];rfl
def fI(H h:Hp):Prop:=∀b x,H b=some x->h b=some x
def fI.refl(H:Hp):fI H H:=λ_ _ h=>h
def fI.trans{H m k:Hp}(h:fI H m)(q:fI m k):fI H k:=λb x s=>q b x (h b x s)
def _root_.Go.LL.Hp.Sub.inc{H H':Hp}(h:H.Sub H'):fI H H':=h.mem
def Zt{H:Hp}(h:H r=none):fI H (H.ins r o):=(YB h).mem
def Um(H J:Hp):fI H (H.join J):=λ_ _ h=>Hp.eN h
def _root_.Go.LL.aM.inc{H H':Hp}{a:Addr}(h:aM H a cs)(s:fI H H'):aM H' a cs:=by obtain⟨k,o,p,m,q⟩:=h;exact⟨k,o,p,s _ _ m,q⟩
def dF.inc[Enc α]{H H':Hp}{v:Value}{l:List α}(h:dF H v l)(z:fI H H'):dF H' v l:=by obtain⟨A,c,k,m⟩:=h;refine⟨A,c,k,λu=>?_⟩;obtain⟨a,q,s⟩:=m u;exact⟨a,q,s.inc z⟩
def kB(xs:List (List Value))(I:Nat->Hp->Prop)(rest:List (List Value))(H:Hp):Prop:=∃p,p+rest.length=xs.length/\xs.drop p=rest/\I p H
def kB.start{I:Nat->Hp->Prop}{H:Hp}(h:I 0 H):kB xs I xs H:=⟨0,by simp,rfl,h⟩
def kB.stop{I:Nat->Hp->Prop}{H:Hp}(h:kB xs I [] H):I xs.length H:=by obtain⟨p,k,_,m⟩:=h;simp at k;rw[<-k];exact m
def kB.call{P:fP}{y:Value}{I:Nat->Hp->Prop}{S:Hp->Prop}{x:List Value}{r:List (List Value)}{H:Hp}
  (B:∀n (C:n<xs.length) H,I n H->Z5 P y (xs[n]).toArray H (λv k=>(v=.bool true/\I (n+1) k)\/(v=.bool false/\S k))) (h:kB xs I (x :: r) H) :
  Z5 P y x.toArray H (λv k=>(v=.bool true/\kB xs I r k)\/(v=.bool false/\S k)):=by
 obtain⟨p,m,z,A⟩:=h;have q:p<xs.length:=by simp at m;omega
 have e:=qCv q;rw[z]at e;have s:x=xs[p]:=by injection e
 have u:xs.drop (p+1)=r:=by injection e with _ e;exact e.symm
 rw[s];refine(B p q H A).mono ?_;rintro v k (⟨rfl,h⟩ | ⟨rfl,h⟩)
 ·exact .inl ⟨rfl,p+1,by simp at m;omega,u,h⟩
 exact .inr ⟨rfl,h⟩
def HL:Tryz.prog.underlying 239=some (.array 4 3):=U
def Zom:Yw Tryz.prog 239=some (4,some (.agg #[vi 0,vi 0,vi 0,vi 0]),32):=U
theorem sU{α:Type}[Enc α](h:∀a:α,((Enc.enc a).all Value.gM)=true):∀l:List α,((Zd l).all Value.gM)=true
 | []=>rfl
 | a :: l=>by have:=sU h l;simp only[Zd,qAI,qBO]at this ⊢;rw[h,this];rfl
def yV{P:fP}{d:Option Nat}{next:fG->Hp->Prop}{σ:fG}{H:Hp}{x:Operand}{t2 ty:TypeId}{A:Option Addr}(z:P.toProgram.underlying t=some (.slice e))(q:σ.get x=some (.slice A n c))(h:next (σ.set d (vb A.isNone)) H) :
  (fR.gE (.binOp .eql t x (.const (.slice none 0 0)) t2) ty).m P d next σ H:=by
 have k:∀v,σ.get (.const v)=some v:=λv=>rfl;refine Vh (by simp[Op.operands,q,k]) ?_ h;have:execOp (λx=>(σ.get x).getD undef) (fL (.binOp .eql t x (.const (.slice none 0 0)) t2) ty)=(do let v <-(do eqGuard .eql t x (.const (.slice none 0 0)) (.slice A n c) (.slice none 0 0);binOp .eql t (.slice A n c) (.slice none 0 0));pure (.value v)):=by simp[execOp,fL,q,k]
 rw[this];refine Ue λQ g H u=>?_;simp only[eqGuard,Zf,Zj];have key:∀d,fZ P.toPQ (Op.equalIn (d+1) t (.slice A n c) (.slice none 0 0)) (λb g H=>Q (vb b) g H) g H:=by intro d;simp only[Op.equalIn,Zf,ZA z];cases A<;>exact u
 have:=key 9999;cases A<;>exact(Zf.2 this)
section
variable{P:fP}[Tz P]{H:Hp}
def ZzW{v:Value}(z:∀c∈l,Z5 P fv #[vi c] H λv h=>H=h/\v=vb (f c))(q:dF H v l)(B:l.length<=1000000)(k:P.still H.gh=false) :
  LL.Zb P 324 #[v,fv] H λv h=>H=h/\∃r:Int,v=vi r/\(0<=r↔l.any f=true):=by
 refine aU.m (fO ZwS) rfl ?_;unfold Zi0;refine Y ?_;refine YH q rfl (Y ?_);refine ZC l.length (λj h=>H=h/\(l.take j).any f=false) (λj=>[(0,v),(1,fv),(7,vi l.length),(8,vi j)]) (λj=>[]) ⟨rfl,rfl⟩ V trivial ?_;rintro j _ A ⟨rfl,xW⟩;refine OJ (λs=>?_) (λs=>?_)
 ·have mF:j<l.length:=O;refine Y ?_;refine yZ q rfl rfl rfl (i:=j) mF λa u=>Y ?_;refine Zh k rfl u (Y ?_);refine ZP rfl rfl (z l[j] (iN mF)) ?_;exact WL
 exact LO
def Zz8{v:Value}(q:∀c∈l,Z5 P fv #[vi c] H λv h=>H=h/\v=vb (f c))(u:dF H v l)(s:l.length<=1000000)(k:P.still H.gh=false) :
  LL.Zb P 259 #[v,fv] H λv h=>H=h/\v=vb (l.any f):=by
 refine aU.m (fO Zw7) rfl ?_;unfold Zjf;refine Y ?_;refine Z7 (vs:=[v,fv]) rfl (ZzW q u s k) ?_;exact S4
def ZnF{v:Value}(L:dF H v l)(Q:l.length<=1000000)(h:P.still H.gh=false) :
  LL.Zb P 195 #[v] H λB s=>H.Sub s/\((l=[]/\B=.slice none 0 0)\/∃b,gL H s 3 B l b):=by
 obtain⟨A,c,rfl,F⟩:=L;refine aU.m (fO Zw6) rfl ?_;unfold Zje;refine Y ?_;refine yV (fU jR) rfl ?_;refine OJ (λD=>?_) (λD=>?_)
 ·refine Y ?_;refine⟨.refl H,.inl ⟨?_,rfl⟩⟩;refine qAb λu=>?_;obtain⟨a,rfl,_⟩:=F u;simp at D
 refine Y ?_;refine rT (fU jR) (fT t3) h λr z=>Y ?_;have k:P.still (H.ins r (.cells #[] 3)).gh=false:=h;refine uG (l:=([]:List Int)) (l':=l) (fU jR) (fU jR) (fT t3) rfl (by decide) (YB z) (H0:=H) (b:=some r) ⟨wA,λq e=>by obtain rfl:=aT e;exact z⟩ ⟨A,c,rfl,λu=>by obtain⟨a,G,I⟩:=F u;exact⟨a,G,I.sub (YB z)⟩⟩ (W6 l) (by simp;omega) O rfl rfl k λB s b' J C N=>Y ?_;exact⟨J,.inr ⟨b',by rw[qAt]at C;exact C⟩⟩
end
def rP(p:Program)(t:TypeId):Option (List (String×TypeId×Nat)×Bool):=match p.underlying t with | some (.struct h)=>some (h.toList.map (λf=>(f.name,f.type,f.offset)),p.stoodInHeld t) | _=>none
def HJ{t2:Nat}{b:Bool}(h:rP p t=some ([(n1,t1,o1),(n2,t2,o2)],b)):∃k m:Field,p.underlying t=some (.struct #[k,m])/\(k.name=n1/\k.type=t1/\k.offset=o1)/\(m.name=n2/\m.type=t2/\m.offset=o2)/\p.stoodInHeld t=b:=by
 unfold rP at h;split at h
 ·rename_i q u;obtain⟨q⟩:=q;simp only[IF,qAX]at h;obtain⟨h,s⟩:=h;match q,h with
  | [k,m],h=>
   simp only[qBm,qBM,qBg,qAX]at h;exact⟨k,m,u,h.1,h.2.1,s⟩
 simp at h
def C5{s:String}{t2 t3 u:Nat}{b:Bool}(h:rP p t=some ([(n1,t1,o1),(n2,t2,o2),(s,t3,u)],b)):∃k m f3:Field,p.underlying t=some (.struct #[k,m,f3])/\(k.name=n1/\k.type=t1/\k.offset=o1)/\(m.name=n2/\m.type=t2/\m.offset=o2)/\(f3.name=s/\f3.type=t3/\f3.offset=u)/\p.stoodInHeld t=b:=by
 unfold rP at h;split at h
 ·rename_i q A;obtain⟨q⟩:=q;simp only[IF,qAX]at h;obtain⟨h,z⟩:=h;match q,h with
  | [k,m,f3],h=>
   simp only[qBm,qBM,qBg,qAX]at h;exact⟨k,m,f3,A,h.1,h.2.1,h.2.2.1,z⟩
 simp at h
def C7:rP Tryz.prog 31=some ([("Low",3,0),("High",3,1)],false):=U
def vD:Tryz.prog.underlying 3=some (.int .i64):=U
def Ph:Tryz.prog.underlying 4=some .bool:=U
def N7:Ym Tryz.prog 31=some (some 2):=U
section
variable{P:fP}[Tz P]{H:Hp}{g:Bool}{d:Nat}
def Vg{cs:Array Value}{v:Value}(h:cs[off]? = some v)(Q:Value->Bool->Hp->Prop):fZ P.toPQ (part 3 cs off) Q g H↔Q v g H:=by simp only[part,Zf,OW (rD (P:=P) a3),oR,qAq,h,Zj]
def L7{t:Nat}{cs:Array Value}(h:Ym Tryz.prog t=some (some n))(Q:Value->Bool->Hp->Prop):fZ P.toPQ (part t cs off) Q g H↔Q (.agg (cs.extract off (off+n))) g H:=by obtain⟨i,k,m,q⟩:=PN (rD (P:=P) h);simp only[part,Zf,q,qBb,Yc k,m,Zj]
def yT{b:Int}(Q:Bool->Bool->Hp->Prop):fZ P.toPQ (Op.equalIn (d+1) 3 (vi a) (vi b)) Q g H↔Q (decide (a=b)) g H:=by
 simp only[Op.equalIn,Zf,ZA (fU (P:=P) vD),qBb,Zj];have:(a == b)=decide (a=b):=by rw[qBQ];simp
 rw[this]
def WT(k:rP Tryz.prog t=some ([("Before",3,0),("By",3,1)],false)\/rP Tryz.prog t=some ([("Low",3,0),("High",3,1)],false)){b c e:Int}(Q:Bool->Bool->Hp->Prop)(m:Q (decide (a=c/\b=e)) g H):fZ P.toPQ (Op.equalIn (d+1+1) t (.agg #[vi a,vi b]) (.agg #[vi c,vi e])) Q g H:=by
 have z:∀(x y:Int) (Q:Value->Bool->Hp->Prop) g H,fZ P.toPQ (part 3 #[vi x,vi y] 0) Q g H↔Q (vi x) g H:=λx y Q g H=>Vg rfl Q;have A:∀(x y:Int) (Q:Value->Bool->Hp->Prop) g H,fZ P.toPQ (part 3 #[vi x,vi y] 1) Q g H↔Q (vi y) g H:=λx y Q g H=>Vg rfl Q;rcases k with k | k
 all_goals
  obtain⟨B,C,u,⟨n1,t1,o1⟩,⟨n2,t2,o2⟩,k⟩:=HJ (p:=P.toProgram) (by rw[Tz.prog (P:=P)];exact k)
  rw[Op.equalIn]
  simp only[Zf,ZA u,Vw,k,oR,qAq,Zj]
  simp only[n1,n2,t1,t2,o1,o2,Zf,qBr,qBp,List.forIn_nil]
  by_cases q:a=c<;>by_cases s:b=e<;>simp[z,A,yT,Zf,Zj,q,s]at m ⊢<;>exact m
def oC(m:rP Tryz.prog t=some ([("Before",3,0),("By",3,1)],false)\/rP Tryz.prog t=some ([("Low",3,0),("High",3,1)],false)){b c e:Int}(Q:Bool->Bool->Hp->Prop):fZ P.toPQ (Op.equalIn (d+1+1) t (.agg #[vi a,vi b]) (.agg #[vi c,vi e])) Q g H↔Q (decide (a=c/\b=e)) g H:=by
 refine⟨λh=>?_,WT m Q⟩;have z:∀(x y:Int) (Q:Value->Bool->Hp->Prop) g H,fZ P.toPQ (part 3 #[vi x,vi y] 0) Q g H↔Q (vi x) g H:=λx y Q g H=>Vg rfl Q;have A:∀(x y:Int) (Q:Value->Bool->Hp->Prop) g H,fZ P.toPQ (part 3 #[vi x,vi y] 1) Q g H↔Q (vi y) g H:=λx y Q g H=>Vg rfl Q;rcases m with m | m
 all_goals
  obtain⟨B,C,u,⟨n1,t1,o1⟩,⟨n2,t2,o2⟩,m⟩:=HJ (p:=P.toProgram) (by rw[Tz.prog (P:=P)];exact m)
  rw[Op.equalIn]at h
  simp only[Zf,ZA u,Vw,m,oR,qAq,Zj]at h
  simp only[n1,n2,t1,t2,o1,o2,Zf,qBr,qBp,List.forIn_nil]at h
  by_cases q:a=c<;>by_cases s:b=e<;>simp[z,A,yT,Zf,Zj,q,s]at h ⊢<;>exact h
def MO(a b:N4):Bool:=decide (a.a=b.a/\a.b=b.b/\a.c=b.c/\a.d=b.d)
def Zv3{a b:N4}(Q:Bool->Bool->Hp->Prop)(k:Q (MO a b) g H):fZ P.toPQ (Op.equalIn (d+1+1) 239 (ZI a) (ZI b)) Q g H:=by have G:∀(x y z u:Int) (Q:Value->Bool->Hp->Prop) g H,fZ P.toPQ (part 3 #[vi x,vi y,vi z,vi u] 0) Q g H↔Q (vi x) g H:=λx y z u Q g H=>Vg rfl Q;have I:∀(x y z u:Int) (Q:Value->Bool->Hp->Prop) g H,fZ P.toPQ (part 3 #[vi x,vi y,vi z,vi u] 1) Q g H↔Q (vi y) g H:=λx y z u Q g H=>Vg rfl Q;have J:∀(x y z u:Int) (Q:Value->Bool->Hp->Prop) g H,fZ P.toPQ (part 3 #[vi x,vi y,vi z,vi u] 2) Q g H↔Q (vi z) g H:=λx y z u Q g H=>Vg rfl Q;have K:∀(x y z u:Int) (Q:Value->Bool->Hp->Prop) g H,fZ P.toPQ (part 3 #[vi x,vi y,vi z,vi u] 3) Q g H↔Q (vi u) g H:=λx y z u Q g H=>Vg rfl Q;obtain⟨F,C,D,L,M⟩:=(fT (P:=P) t3).ex;rw[Op.equalIn];simp only[ZI,Zf,ZA (fU (P:=P) HL),Yc C,D,Zj];unfold MO at k;have B:List.range' 0 4=[0,1,2,3]:=rfl;simp only[qCr,Std.Legacy.Range.size,qBl,qBE,Nat.div_one,B,qBp,List.forIn_nil,Zf];by_cases m:a.a=b.a<;>by_cases q:a.b=b.b<;>by_cases s:a.c=b.c<;>by_cases A:a.d=b.d<;>simp[G,I,J,K,yT,Zf,Zj,m,q,s,A]at k ⊢<;>exact k
end
def BM(p:Program)(t:TypeId):Bool:=p.eqGuardType p.depth t
def Kc:BM Tryz.prog 31=false:=U
section
variable{P:fP}[Tz P]{H:Hp}{d:Option Nat}{next:fG->Hp->Prop}{σ:fG}{x y:Operand}{ty t2:TypeId}{v:Value}
def Zip{xs:Array Value}{b:Bool}(hg:BM Tryz.prog t=false)(hE:∀(Q:Bool->Bool->Hp->Prop) (g:Bool) (H:Hp),Q b g H->fZ P.toPQ (Op.equalIn (9998+1+1) t (.agg xs) (.agg ys)) Q g H)(k:σ.get x=some (.agg xs))(q:σ.get y=some (.agg ys))(h:next (σ.set d (vb b)) H) :
  (fR.gE (.binOp .eql t x y t2) ty).m P d next σ H:=by
 refine Vh (by simp[Op.operands,k,q]) ?_ h;have:execOp (λx=>(σ.get x).getD undef) (fL (.binOp .eql t x y t2) ty)=(do let v <-(do eqGuard .eql t x y (.agg xs) (.agg ys);binOp .eql t (.agg xs) (.agg ys));pure (.value v)):=by simp[execOp,fL,k,q]
 exact T5
def CB{xs:Array Value}{b:Bool}(hg:BM Tryz.prog t=false)(hE:∀(Q:Bool->Bool->Hp->Prop) (g:Bool) (H:Hp),Q b g H->fZ P.toPQ (Op.equalIn (9998+1+1) t (.agg xs) (.agg ys)) Q g H)(k:σ.get x=some (.agg xs))(q:σ.get y=some (.agg ys))(h:next (σ.set d (vb !b)) H) :
  (fR.gE (.binOp .neq t x y t2) ty).m P d next σ H:=by
 refine Vh (by simp[Op.operands,k,q]) ?_ h;have:execOp (λx=>(σ.get x).getD undef) (fL (.binOp .neq t x y t2) ty)=(do let v <-(do eqGuard .neq t x y (.agg xs) (.agg ys);binOp .neq t (.agg xs) (.agg ys));pure (.value v)):=by simp[execOp,fL,k,q]
 exact T5
def Ztb{len K hi:Nat}{a:Addr}{k:IntKind}{C:Option Operand}(G:P.toProgram.underlying t=some (.array len e))(N:TI P.toProgram e K zv gQ)(F:0<len)(s:σ.get x=some (.pointer (some a)))(u:(C=none/\hi=len)\/∃z,C=some z/\σ.get z=some (.int k (hi:Int)))(L:hi<=len)
  (h:next (σ.set d (.slice (some a) hi len)) H):(fR.gE (.slice t x none C none) ty).m P d next σ H:=by
 obtain⟨M,I,J,R,S⟩:=N.ex;have A:(0:Int)<=(hi:Int)/\(hi:Int)<=(len:Nat):=⟨O,O⟩;have D:a.add (0 * K)=a:=by rw[qDg];rfl
 have q:¬ len=0:=O;rcases u with⟨rfl,rfl⟩ | ⟨z,rfl,u⟩
 ·refine Vh (by simp[Op.operands,s]) ?_ h;have:execOp (λx=>(σ.get x).getD undef) (fL (.slice t x none none none) ty)=(do let v <-Instr.sliceAt t (.pointer (some a)) none none none;pure (.value v)):=by simp[execOp,fL,s]
  rw[this];refine Ue λQ g H B=>?_;simp only[Instr.sliceAt,Zf,ZA G,Instr.sureAddr,Instr.sliceBounds,Zj,Yc I,J,D,iF q,qBl];exact B
 refine Vh (by simp[Op.operands,s,u]) ?_ h;have:execOp (λx=>(σ.get x).getD undef) (fL (.slice t x none (some z) none) ty)=(do let v <-Instr.sliceAt t (.pointer (some a)) none (some (.int k (hi:Int))) none;pure (.value v)):=by simp[execOp,fL,s,u]
 rw[this];refine Ue λQ g H B=>?_;simp only[Instr.sliceAt,Zf,ZA G,Instr.sureAddr,Instr.sliceBounds,Instr.sliceBound,asIntOf,Zj,qAa A,Yc I,J,D,iF q,qBl,qAL];exact B
def Ztz{q C:Nat}(M:P.toProgram.underlying sT=some (.slice E))(U:TI P.toProgram E 1 zv gQ)(D:σ.get x=some (.slice (some ⟨r,0,none⟩) q C))(F:σ.get y=some w)(N:dF H w l)(L:l.length<=q)(V:q=cs.length)(hb:H r=some (.cells cs.toArray E2 (0,0),true))(B:P.still H.gh=false)
  (h:next (σ.set d (vi l.length)) (H.ins r (.cells (l.map vi++cs.drop l.length).toArray E2))):(fR.raw (.call { callee:=.builtin .copy,args:=#[x,y],argTypes:=#[sT,Iu] }) T).m P d next σ H:=by
 obtain⟨S,O,R,W,X⟩:=U.ex;refine YX (s:=Builtin.copy_ #[sT,Iu] T #[.slice (some ⟨r,0,none⟩) q C,w]) (by simp[Op.operands,Call.operands,D,F]) (by simp[execOp,fL,resolve,invoke,builtin,D,F]) ?_;obtain⟨A,c,rfl,K⟩:=N;have z:Nat.min l.length q=l.length:=qBX L;simp only[Builtin.copy_,qAM,qBy,qBk,Zf,ZA M,Builtin.lenOf,Zj,z,Yc O,R];have k:∀(Q:Array Value->Bool->Hp->Prop),Q (l.map vi).toArray false H->fZ P.toPQ (Builtin.firstCells 1 l.length (.slice A l.length c)) Q false H:=by
  intro Q I;by_cases G:l=[]
  ·subst G;cases A<;>simpa[Builtin.firstCells,Zj,loadCells,loadCellsFrom]using I
  obtain⟨a,rfl,u⟩:=K G;rw[UC]at u;simp only[Builtin.firstCells];exact XB B u I (by simp)
 refine k _ ?_;refine MX _ _ (l.map vi) 0 0 cs H B hb (by simp[Value.gM]) (by simp;omega) ?_;simpa[goInt]using h
end
def Uy{H:Hp}{h:Obj}:(H.ins r o).ins r h=H.ins r h:=by
 refine Hp.ext' (λc=>?_) rfl;by_cases e:c=r
 ·subst e;rw[Hp.aQ,Hp.aQ]
 rw[Hp.aR _ _ e,Hp.aR _ _ e,Hp.aR _ _ e]
def VR{H:Hp}:aM (H.ins r (.cells cs.toArray E)) ⟨r,0,none⟩ cs:=⟨rfl,_,_,Hp.aQ _ _ _,λj h=>by simp[Obj.nC]⟩
def YQ(l:List Int):N4:=.of λi=>l.getD i 0
