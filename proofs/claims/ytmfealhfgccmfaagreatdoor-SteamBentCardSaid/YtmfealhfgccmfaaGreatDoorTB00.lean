import Derived.Test.YtmfealhfgccmfaaGreatDoorP38
set_option linter.all false
set_option maxHeartbeats 2000000
open Go Go.LL
namespace Go.Proofs
section
open Go.Z
def JN:Zc:=aG 2 (.eE 2 [2,7,13,20,27,36,45,51,63,69] 0) (o 3 (.eE 3 [3,9,15,22,30,39,56,74] 1)) (ag (m0 4)) (aK (dX 7 0 2 (fw 9 3) (au 3 9) (fA (ay .neq 8 10) (aL 11) (dq 12 (.fH 1 2)) (gf 12 14 (.gO 2 none 13)) 12 15 (.fH 1 3) (gf 12 16 (.gO 3 none 15)) (gf 12 17 (.fV .neq 14 16)) (bA 12 17) (fh 18 (dq 19 (.fH 2 2)) (gf 19 21 (.gO 2 none 20)) (gf 19 22 (.fH 2 3)) (a8 (gf 19 23 (.gO 3 none 22)) (gf 19 24 (.fV .neq 21 23)) (bA 19 24) (aL 25) (dq 26 (.fH 3 2)) (gf 26 28 (.gO 2 none 27)) (gf 26 29 (.len 28)) (gf 26 30 (.fH 3 3)) (ac (gf 26 31 (.gO 3 none 30)) (gf 26 32 (.len 31)) (gf 26 33 (.fV .neq 29 32)) (bA 26 33) (fh 34 (dq 35 (.fH 4 2)) (gf 35 37 (.gO 2 none 36)) (gf 35 38 (.len 37)) (ac (gf 35 39 (.fH 4 3)) (gf 35 40 (.gO 3 none 39)) (gf 35 41 (.len 40)) (gf 35 42 (.fV .neq 38 41)) (ag (bA 35 42)))))))) (cj 43 4)) (dd 5 0 48 44 5 (dB 45 3) (dw 45) (aO 46) (bQ 44 47) 1 (aj [dB 51 3,dw 51,di 53,aF 54 2 52,bB 2 54,f 56 3 3,au 3 56,di 58,aF 59 2 57,bB 2 59,o 61 (.gE (.binOp .neq 31 55 60 31) 4)] (cj 61 4)) 49 50 5) (S (dd 6 2 66 62 6 (dB 63 4) (dw 63) (aO 64) (bQ 62 65) 3 (aj [dB 69 4,dw 69,dW 71,aF 72 4 70,bB 4 72,f 74 4 3,au 3 74,dW 76,aF 77 4 75,bB 4 77,o 79 (.gE (.binOp .neq 180 73 78 180) 4)] (cj 79 4)) 67 68 6) (dM (m1 4))))
def Fl:List Ze:=[(.aW 4)]
def Cr:aU Tryz.prog 22 2 JN Fl:=fN [(2,2),(3,3),(7,2),(9,3),(13,2),(15,3),(20,2),(22,3),(27,2),(30,3),(36,2),(39,3),(45,2),(51,2),(56,3),(63,2),(69,2),(74,3)] Tryz.func22
def JR:Zc:=de 5 (.eE 5 [5,18] 0) (o 7 (.eE 7 [7] 2)) (o 8 (.eE 8 [8] 3)) (m0 10) [] (an 16 1 (o 17 (.gE (.convert 5 3 16) 3)) (f 18 3 5) (au 5 18) (aY (aO 19) (o 21 (.gE (.binOp .rem 3 17 20 3) 3)) 11 21) (S (eK 22 7 2 (aN 23 8 2) 80 22 (o 25 (.not 24)) [] (cj 25 10)) (aj [aN 27 5 5,db 28,aN 29 7 2,o 12 (.eC 12 [12] [z0,z0,z0,s0,s0]),(o 30 (.call 82 [29,(k 1),(k 20)]),(some false)),(eI 61 27 28 30,(some false)),m 26 31,dg 32 26,dh 33 26,fB 12 32,m 13 33] (aj [aN 35 5 5,db 36,aN 37 8 2,o 14 (.eC 14 [14] [z0,z0,z0,s0,s0]),(o 38 (.call 82 [37,(k 1),(k 20)]),(some false)),(eI 61 35 36 38,(some false)),m 34 39,dg 40 34,dh 41 34,fB 14 40,m 15 41] (aV 42 5 5 (aN 43 12 5) (aN 44 14 5) (m 45 13) (az 46 15 (fx 47) (bR 48) (o 49 (.call 83 [42,43,44,45,46,47,48])) (am 10 49)) .ret)))))
def Fs:List Ze:=[(.aW 10)]
def Cw:aU Tryz.prog 27 5 JR Fs:=fN [(5,5),(7,7),(8,8),(12,12),(14,14),(18,5)] Tryz.func27
def JU:Zc:=dA 2 (.eE 2 [2,18,24,33,39] 0) 4 (aK (dd 5 0 11 8 5 (bR 9) (aO 9) (ba 8 10) [] 1 (aj [bR 14,di 15,cH 16 14,aJ 16,dB 18 3,dw 18,di 20,aF 21 2 19,o 22 (.fE 0 21),aJ 22,dB 24 3,dw 24,di 26,aF 27 2 25,o 28 (.fE 1 27),aJ 28,eI 71 17 23 29,o 31 (.not 30)] (cj 31 4)) 12 13 5) (dd 6 2 36 32 6 (dB 33 4) (dw 33) (aO 34) (bQ 32 35) 3 (dX 39 4 2 (dW 41) (aF 42 4 40) (eG (bB 4 42) (o 7 (.eC 7 [7,45,50,55,56,58,59] [z0,z0,z0,z0])) (bo 7 4 43)) (aj [bR 44,f 45 1 7,au 7 45,eh 1 44 46,aJ 47,bR 49,fw 50 7,au 7 50,eh 1 49 51,aJ 52,ay .sub 48 53,f 55 2 7,cu 0 55,au 7 56,f 58 2 7,cu 1 58,au 7 59,eI 71 54 57 60,o 62 (.not 61)] (cj 62 4))) 37 38 6) (eK 63 2 5 (bR 64) 163 63 (m 4 65) [] .ret))
def Fu:List Ze:=[(.aW 4)]
def Cz:aU Tryz.prog 87 2 JU Fu:=fN [(2,2),(7,7),(18,2),(24,2),(33,2),(39,2),(45,7),(50,7),(55,7),(56,7),(58,7),(59,7)] Tryz.func87
def JW:Zc:=dJ 2 (S (aZ 3 0 (du (.gE (.binOp .eql 52 3 (.const s0) 52) 4)) (bz 4 (al 2))) (de 5 (.raw (.buildSlice 52 0 #[]) 52) (bg 6) (o 7 (.raw (.call (.mk (.builtin .append) #[5,6] #[52,52])) 52)) (eJ 2) [] .ret))
def Fw:List Ze:=[(.aW 2)]
def Db:aU Tryz.prog 92 1 JW Fw:=fN [] Tryz.func92
def I1:Zc:=bZ 2 (.eE 2 [2] 0) 3 (eK 4 2 5 (ld 5 1) 89 4 (dW 3) [] .ret)
def Gb:List Ze:=[(.aW 3)]
def Dg:aU Tryz.prog 97 2 I1 Gb:=fN [(2,2)] Tryz.func97
def I4:Zc:=dJ 2 (S (aZ 3 0 (du (.gE (.binOp .eql 53 3 (.const s0) 53) 4)) (bz 4 (al 2))) (de 5 (.raw (.buildSlice 53 0 #[]) 53) (bg 6) (o 7 (.raw (.call (.mk (.builtin .append) #[5,6] #[53,53])) 53)) (eJ 2) [] .ret))
def Ge:List Ze:=[(.aW 2)]
def Dj:aU Tryz.prog 167 1 I4 Ge:=fN [] Tryz.func167
def E0:Zc:=cz 4 (S (dd 5 0 9 6 5 (bg 7) (aO 7) (ba 6 8) [] 1 (bm 12 0 5 (cH 14 12) (aJ 14) (az 16 1 (o 17 (.raw (.unOp .neg 3 16) 3)) (bR 18) (eI 71 15 17 18) (bL 20 (.not 19))) (cj 20 4)) 10 11 5) (dM (m1 4)))
def Ea:List Ze:=[(.aW 4)]
def Dm:aU Tryz.prog 237 2 E0 Ea:=fN [] Tryz.func237
def JB:Zc:=aG 2 (.eE 2 [2,10,11,21,22,32,33] 0) (dI 3) (ag (m0 4)) (eQ 5 (.lS (.func 308)) (aj [(aN 6 2 5,none),(aN 7 3 7,none),(di 9,none),(dB 10 0,none),(cu 0 10,none),(dw 11,none),(cy 310 6,(some false)),(o 13 (.raw (.call (.mk (.value 9) #[12] #[3])) 157),none),(bC 259 8 13,none),(o 15 (.not 14),none),(aL 15,none),(gt 16 17 (.gO 2 (some 5) 2),none),(gt 16 18 (.gO 3 (some 7) 3),none),(mt 16 20 5,none),(gt 16 21 (.fH 0 2),none),(gt 16 22 (.fH 1 21),none),(gt 16 23 (.gO 2 none 22),none),(gt 16 19 (.call 311 [17,18]),(some false)),(gt 16 24 (.raw (.call (.mk (.value 20) #[23] #[3])) 157),none),(gt 16 25 (.call 259 [19,24]),none),(gt 16 26 (.not 25),none),(bw 16 26,none),(aL 27,none),(gt 28 29 (.gO 2 (some 5) 2),none),(gt 28 30 (.gO 3 (some 7) 3),none),(gt 28 32 (.fH 0 2),none),(gt 28 33 (.fH 2 32),none),(gt 28 34 (.gO 2 none 33),none),(gt 28 31 (.call 312 [29,30]),(some false)),(gt 28 35 (.fV .leq 31 34),none),(bw 28 35,none),(m 4 36,none)] .ret))
def Ef:List Ze:=[(.aW 4)]
def Bn:aU Tryz.prog 242 2 JB Ef:=fN [(2,2),(3,3),(10,2),(11,2),(21,2),(22,2),(32,2),(33,2)] Tryz.func242
def JF:Zc:=aG 2 (.eE 2 [2] 0) (dI 3) (ag (al 4)) (eK 5 2 5 (aN 6 3 7) 310 5 (bp 350 7) (am 4 8) .ret)
def Ek:List Ze:=[(.aW 4)]
def Bs:aU Tryz.prog 311 2 JF Ek:=fN [(2,2),(3,3)] Tryz.func311
def HR:Zc:=dJ 2 (dJ 3 (S (aB 4 1 (bM 0 8 5 4 (bg 6) (aO 6) (ba 5 7) [] 1 (.drawn [dm 11,bg 12,fx 13,cH 14 12,aJ 14,bg 16,fx 17,cZ 17,eh 1 16 18,aJ 19,ay .sub 15 20,(o 22 (.fJ 3 1 [z0] [(0,(1,21))]),(some false)),(o 23 (.raw (.call (.mk (.builtin .append) #[11,22] #[45,45])) 45),none),m 3 23]) 9 10 4)) (eH 24 3 2)))
def Gj:List Ze:=[(.aW 2)]
def Bi:aU Tryz.prog 350 1 HR Gj:=fN [] Tryz.func350
def HU:Zc:=bZ 1 (.eE 1 [1,3,4,9,10,16,17] 0) 2 (S (dS 3 0 1 0 3 (dN 4) (o 6 (.call 164 [5,(k 0),(k 99)])) (fA (o 7 (.not 6)) (aL 7) (dq 8 (.fH 0 1)) (gf 8 10 (.fH 1 9)) 8 11 (.gO 1 none 10) (gf 8 12 (.call 164 [11,(k 0),(k 99)])) (gf 8 13 (.not 12)) (bA 8 13) (fh 14 (dq 15 (.fH 0 1)) (gf 15 17 (.fH 2 16)) (gf 15 18 (.gO 1 none 17)) (eG (gf 15 19 (.call 164 [18,(k 0),(k 5)])) (gf 15 20 (.not 19)) (bA 15 20)))) (eS 21 1)) (cB 2))
def Gn:List Ze:=[(.aW 2)]
def Dr:aU Tryz.prog 395 1 HU Gn:=fN [(1,1),(3,1),(4,1),(9,1),(10,1),(16,1),(17,1)] Tryz.func395
def IC:Zc:=bJ 4 (dO 6 0 (aO 6) (dy 8) (cX 0 9 9 8 7 1 (cO 10 8 5 (bm 11 1 0 (di 13) (aF 14 2 12) (aD (bB 2 14) (o 16 (.raw (.call (.mk (.value 11) #[15] #[31])) 4))) (cr 16 (aI (di 17) 4 17)))) 18 8 1 8 18) (dM (aP 4)))
def Ff:List Ze:=[(.aW 4)]
def Dy:aU Tryz.prog 400 2 IC Ff:=fN [] Tryz.func400
def JO:Zc:=aG 3 (.eE 3 [3,10] 0) (o 5 (.eE 5 [5] 2)) (bL 6 (.eC 6 [6] [z0,z0,z0,s0,s0])) (cq 8 3 5 (o 7 (.eC 7 [7,13,14] [z0,z0,z0,s0,s0])) (ag (fB 7 8)) (de 9 (.raw (.buildSlice 52 0 #[]) 52) (f 10 3 3) (au 3 10) (o 12 (.raw (.call (.mk (.builtin .append) #[9,11] #[52,52])) 52)) (aD (f 13 3 7) (ls 7 1 13 12)) (dX 14 3 7 (bR 16) (aN 17 5 2) (aD (aF 18 2 15) (cJ 31 18 17)) (cq 19 7 5 (fB 6 19) [] .ret))))
def Fo:List Ze:=[(.kS 6 6 (some 5))]
def Cs:aU Tryz.prog 23 3 JO Fo:=fN [(3,3),(5,5),(6,6),(7,7),(10,3),(13,7),(14,7)] Tryz.func23
def HQ:Zc:=bZ 1 (.eE 1 [1] 0) 2 (S (bZ 6 (.ld (some 3) (.global 1)) 7 (cf 0 8 (fu 7 3) 1 (bn 9 (.raw (.index 291 6 7) 187) (dP 4) (cS 10 4 (aN 11 1 5) 12 (.build [z0,z0,z0,s0,s0] [(0,(5,11))]) (o 13 (.raw (.call (.mk (.value 10) #[12] #[173])) 39)) (am 5 13) (fj 14 5 (aI (di 16) 2 16)))) 17 7 1 7 17)) (cB 2))
def Gi:List Ze:=[(.aW 2)]
def Bh:aU Tryz.prog 88 1 HQ Gi:=fN [(1,1)] Tryz.func88
def JX:Zc:=aG 1 (.eE 1 [1,15,18,21,22] 0) (o 2 (.eC 2 [2] [z0,z0,z0,s0,s0])) (dy 3) (S (aV 7 1 5 (o 8 (.call 96 [7,(.func 166)])) (fc 6) (dg 9 6) (ec (dh 10 6) (du (.eC 4 [4] [z0,z0,z0,s0,s0,s0])) 4 6 9 5 10) (fj 11 5 (ec (bI 13) (di 14) 2 5 13 3 14))) (aj [eZ 15 3,dN 15,eZ 18 4,dN 18,(bp 92 16,(some false)),eZ 21 3,(bp 167 19,(some false)),ls 1 1 21 17,eZ 22 4,ls 1 1 22 20] (cq 23 1 5 (fB 2 23) (dy 3) .ret)))
def Fx:List Ze:=[(.kS 2 2 (some 5)),(.aW 3)]
def Dc:aU Tryz.prog 93 1 JX Fx:=fN [(1,1),(2,2),(4,4),(15,1),(18,1),(21,1),(22,1)] Tryz.func93
def I2:Zc:=dA 2 (.eE 2 [2,7,13,20] 0) 4 (aj [bR 5,dB 7 0,dw 7,(bp 238 5,(some false)),bC 237 6 8,aL 9,bX 10 1,gt 10 13 (.fH 1 2),gt 10 14 (.gO 2 none 13),(gt 10 12 (.call 239 [11]),(some false)),gt 10 15 (.call 237 [12,14]),bw 10 15,aL 16,bX 17 1,gt 17 20 (.fH 2 2),gt 17 21 (.gO 2 none 20),(gt 17 19 (.call 240 [18]),(some false)),gt 17 22 (.fV .leq 19 21),bw 17 22,m 4 23] .ret)
def Gc:List Ze:=[(.aW 4)]
def Dh:aU Tryz.prog 163 2 I2 Gc:=fN [(2,2),(7,2),(13,2),(20,2)] Tryz.func163
def I5:Zc:=dA 2 (.eE 2 [2,6] 0) 4 (fC 5 1 (dB 6 3) (dw 6) (aO 7) (aY (cZ 8) (eR (.call 71 [5,(k 0),9])) 4 10))
def Gf:List Ze:=[(.aW 4)]
def Dk:aU Tryz.prog 168 2 I5 Gf:=fN [(2,2),(6,2)] Tryz.func168
def I7:Zc:=dJ 2 (dJ 3 (S (aB 4 1 (bM 0 9 5 4 (eD 5) (bg 7) (aO 7) (bQ 6 8) 1 (.drawn [dm 12,bg 13,fx 14,cZ 14,eh 1 13 15,aJ 16,bg 18,fx 19,eD 19,eh 1 18 20,aJ 21,eu 17 22,bg 24,fx 25,cH 26 24,aJ 26,o 28 (.fV .mul (k 2) 27),ay .sub 23 28,(o 30 (.fJ 3 1 [z0] [(0,(1,29))]),(some false)),(o 31 (.raw (.call (.mk (.builtin .append) #[12,30] #[45,45])) 45),none),m 3 31]) 10 11 4)) (eH 32 3 2)))
def Eb:List Ze:=[(.aW 2)]
def Dn:aU Tryz.prog 238 1 I7 Eb:=fN [] Tryz.func238
def JC:Zc:=aG 2 (.eE 2 [2,5,6] 0) (o 3 (.raw (.box 189 1) 0)) (ag (m0 4)) (dS 5 0 2 4 5 (dw 6) (o 8 (.raw (.makeFunc (.func 314) #[] #[3]) 418)) (aY (cy 313 7) (eR (.not 9)) 4 10) .ret)
def Eg:List Ze:=[(.aW 4)]
def Bo:aU Tryz.prog 243 2 JC Eg:=fN [(2,2),(5,2),(6,2)] Tryz.func243
def CK:Zc:=cz 6 (aK (an 8 0 (lm 9 5 1) (bp 165 9) (ay .eql 8 10) [] (cr 11 (cm (ld 12 2) (lm 13 7 3) (o 14 (.raw (.call (.mk (.value 12) #[13] #[189])) 4)) 6 14))) (de 15 (.fE 0 1) (o 16 (.fE 3 15)) (aJ 16) (bg 18) (cm (aF 19 2 17) (o 20 (.fE 0 19)) (aJ 20) 7 21) (bM 0 30 22 7 (o 23 (.fE 0 1)) (o 24 (.fE 3 23)) (aJ 24) (az 26 0 (aF 27 2 25) (o 28 (.fE 1 27)) (aJ 28) (ag (ay .leq 22 29))) 1 (bm 33 0 7 (o 35 (.nH 1 7 3 33)) (cJ 3 35 34) [] (ez [(bg 36,none),(ax .geq 36 2,none),(aL 37,none),(bX 38 0,none),(gt 38 40 (.nH 1 7 3 39),none),(gt 38 41 (.ld none 40),none),(mt 38 42 0,none),(gt 38 43 (.fV .sub 42 (k 1)),none),(gt 38 44 (.nH 1 7 3 43),none),(gt 38 45 (.ld none 44),none),(gt 38 46 (.fV .mul (k 2) 45),none),(gt 38 47 (.fV .sub 41 46),none),(mt 38 48 0,none),(gt 38 49 (.fV .sub 48 (k 2)),none),(gt 38 50 (.nH 1 7 3 49),none),(gt 38 51 (.ld none 50),none),(gt 38 52 (.fV .add 47 51),none),(gt 38 53 (.fE 0 1),none),(gt 38 54 (.fE 0 53),none),(gt 38 55 (.ld none 54),none),(gt 38 57 (.fE 0 1),none),(gt 38 58 (.fE 0 57),none),(gt 38 59 (.ld none 58),none),(gt 38 56 (.raw (.unOp .neg 3 55) 3),(some true)),(gt 38 60 (.call 164 [52,56,59]),none),(gt 38 61 (.not 60),none),(bw 38 61,none)] (aE 62 (.exit 1)) (ae (ld 63 4) (bg 64) (eD 64) (o 66 (.raw (.call (.mk (.value 63) #[65] #[3])) 4)) (bL 67 (.not 66)) (cj 67 6)))) 31 32 7)) (dM (m1 6)))
def Eh:List Ze:=[(.aW 6)]
def NG:aU Tryz.prog 307 5 CK Eh:=fN [(999998,0)] Tryz.func307
def JH:Zc:=aG 2 (.eE 2 [2] 0) (dI 3) (dy 4) (af (bY 5) (bY 6) [] (S (eK 9 2 5 (aN 10 3 7) 310 9 (aO 11) (dy 13) (cX 0 14 14 13 12 1 (af (ia 15 1 11 13) (aJ 15) (am 8 16) (aK (bx 17 8 .eql 17 0 (aE 18 (.exit 1))) (an 19 8 (dx 19 0) (aL 20) (bX 21 6) (fA (gt 21 23 (.fV .lss 22 (k 0))) (bw 21 23) (aL 24) (cY 25 8) 25 27 (.fV .lss 26 (k 0)) (mf 25 28 27) (bX 28 6) (gt 28 30 (.fV .gtr 29 (k 0))) (aD (gf 25 31 (.pick 28 30 k0)) (bA 25 31))) (aE 32 (ic 33 34 5))) (.fK (aI (fc 35) 6 35)))) 36 13 1 13 36)) (eH 37 5 4)))
def El:List Ze:=[(.aW 4)]
def Bt:aU Tryz.prog 312 2 JH El:=fN [(2,2),(3,3)] Tryz.func312
def JJ:Zc:=bJ 4 (dO 6 0 (aO 6) (dy 8) (cX 0 9 9 8 7 1 (cO 10 8 5 (bm 11 1 0 (di 13) (aF 14 4 12) (aD (bB 4 14) (o 16 (.raw (.call (.mk (.value 11) #[15] #[180])) 4))) (cr 16 (aI (di 17) 4 17)))) 18 8 1 8 18) (dM (aP 4)))
def Eo:List Ze:=[(.aW 4)]
def Bw:aU Tryz.prog 351 2 JJ Eo:=fN [] Tryz.func351
def HV:Zc:=bZ 1 (.eE 1 [1,9,10] 0) 2 (S (B 0 (fa 4 1 5 165 4 (o 6 (.call 164 [5,(k 3),(k 7)])) (o 7 (.not 6)) (am 3 7) (N 3 (aB 2 2 .ret) (dS 9 0 1 3 9 (dN 10) (o 12 (.call 398 [11,(.func 399)])) (am 8 12) (eS 8 1))))) (cB 2))
def Gp:List Ze:=[(.aW 2)]
def Ds:aU Tryz.prog 396 1 HV Gp:=fN [(1,1),(9,1),(10,1)] Tryz.func396
def IG:Zc:=dA 1 (.eE 1 [1] 0) 2 (fa 3 1 5 86 3 (o 5 (.not 4)) (aL 5) (dC (gt 6 7 (.gO 1 (some 5) 1)) (gt 6 8 (.call 25 [7])) (gt 6 9 (.fV .eql 8 (k 0))) (bw 6 9) 2 10) .ret)
def Fh:List Ze:=[(.aW 2)]
def Co:aU Tryz.prog 19 1 IG Fh:=fN [(1,1)] Tryz.func19
def n67:Zc:=aG 2 (.eE 2 [2,5,10] 0) (o 3 (.eE 3 [3,7,12] 1)) (bL 4 (.eC 4 [4] [z0,z0])) (dX 5 0 2 (fw 7 3) (au 3 7) (a8 (o 9 (.gE (.call (.mk (.builtin .max) #[6,8] #[3,3])) 3)) (dB 10 1) (dw 10) (f 12 1 3) (au 3 12) (o 14 (.gE (.call (.mk (.builtin .min) #[11,13] #[3,3])) 3)) (o 15 (.build [z0,z0] [(0,(1,9)),(1,(1,14))])) (bo 4 2 15) []) .ret)
def r67:List Ze:=[(.kS 4 4 (some 2))]
def c67:aU Tryz.prog 24 2 n67 r67:=fN [(2,2),(3,3),(4,4),(5,2),(7,3),(10,2),(12,3)] Tryz.func24
def IB:Zc:=bZ 2 (.eE 2 [2] 0) 4 (S (an 5 1 (aN 6 2 5) (bp 165 6) (cZ 7) (aD (o 9 (.call 164 [5,(k 0),8])) (eR (.not 9))) (bj 10 4 6)) (cB 4))
def Fe:List Ze:=[(.aW 4)]
def Dx:aU Tryz.prog 89 2 IB Fe:=fN [(2,2)] Tryz.func89
def IY:Zc:=bJ 2 (aK (cS 4 0 (aO 4) 6 (.call 71 [5,(k 3),(k 7)]) (o 7 (.not 6)) [] (eS 7 2)) (dd 3 0 11 8 3 (bg 9) (aO 9) (ba 8 10) [] 1 (aj [bg 14,dm 15,aF 16 2 14,bB 2 16,o 18 (.call 72 [17,(k 0),(k 959)]),o 19 (.not 18),aL 19,cY 20 0,mf 20 22 3,gf 20 23 (.gC 2 21 22),gf 20 24 (.fE 1 23),gf 20 25 (.ld none 24),mf 20 26 0,mf 20 27 3,gf 20 28 (.gC 2 26 27),gf 20 29 (.fE 0 28),gf 20 30 (.ld none 29),gf 20 31 (.fV .sub 25 30),gf 20 32 (.fV .geq 31 (k 3)),bA 20 32] (eS 33 1)) 12 13 3) (cB 2))
def Fy:List Ze:=[(.aW 2)]
def Dd:aU Tryz.prog 94 1 IY Fy:=fN [] Tryz.func94
def HT:Zc:=cz 6 (bm 7 1 0 (eT 7) (aL 9) (dC (bX 10 0) (mt 10 12 2) (gt 10 13 (.fV .leq 11 12)) (bw 10 13) 6 14) .ret)
def Gm:List Ze:=[(.aW 6)]
def Dq:aU Tryz.prog 164 3 HT Gm:=fN [] Tryz.func164
def I6:Zc:=bn 1 (.raw (.box 173 0) 0) (al 2) (eQ 3 (.raw (.alloc 182) 0) (S (af (lm 5 5 1) (o 6 (.raw (.makeFunc (.func 241) #[5] #[]) 364)) [] (B 0 (.nZ 6 [7] (.fK [o 4 (.raw (.alloc 189) 0),st 189 4 7 0]) (B 1 (sq [lm 8 5 1,lm 9 7 4,c2 10 242 8 9,m 11 10,gt 11 12 (.ld (some 5) 1),gt 11 13 (.ld (some 7) 4),gt 11 14 (.call 243 [12,13]),pa 15 11 14] (N 15 (.fK [ld 16 3,lm 17 7 4,o 18 (.fJ 189 1 [z0,z0,z0,z0,z0,z0,z0] [(0,(7,17))]),o 19 (.raw (.call (.mk (.builtin .append) #[16,18] #[182,182])) 182),st 182 3 19 0]) .skip)))))) (af (ld 20 3) (m 2 20) [] .ret)))
def Dz:List Ze:=[(.aW 2)]
def Dl:aU Tryz.prog 169 1 I6 Dz:=fN [] Tryz.func169
def I8:Zc:=dJ 2 (eV 6 0 (bp 238 6) 3 (dJ 4 (S (aB 5 1 (bM 0 11 8 5 (dm 9) (aO 9) (ba 8 10) [] 1 (.drawn [fx 14,dm 15,di 16,cH 17 15,aJ 17,dm 19,di 20,cZ 20,eh 1 19 21,aJ 22,ay .sub 18 23,(o 25 (.fJ 3 1 [z0] [(0,(1,24))]),(some false)),(o 26 (.raw (.call (.mk (.builtin .append) #[14,25] #[45,45])) 45),none),m 4 26]) 12 13 5)) (eH 27 4 2))))
def Ec:List Ze:=[(.aW 2)]
def Bj:aU Tryz.prog 239 1 I8 Ec:=fN [] Tryz.func239
def JD:Zc:=bn 1 (.raw (.box 3 0) 0) (o 2 (.lS (.const .nilFunc))) (bn 3 (.raw (.makeFunc (.func 309) #[] #[1]) 157) (dm 2) .ret)
def Ei:List Ze:=[(.aW 2)]
def Bq:aU Tryz.prog 308 1 JD Ei:=fN [] Tryz.func308
def E4:Zc:=cz 4 (bm 5 0 1 (cy 351 5) (ax .geq 7 0) (am 4 8) .ret)
def Em:List Ze:=[(.aW 4)]
def Bu:aU Tryz.prog 313 2 E4 Em:=fN [] Tryz.func313
def HX:Zc:=bZ 1 (.eE 1 [1,5,6,10,11] 0) 2 (aK (dS 5 0 1 4 5 (dN 6) (aO 7) (ag (dx 8 4)) (eS 9 2)) (dS 10 0 1 4 10 (dN 11) (aO 12) (dy 14) (cX 0 15 15 14 13 1 (ae (ia 16 4 12 14) (bB 4 16) (du (.eC 4 [4,20,26,32,34,38] [z0,z0,z0,z0])) (bo 4 4 17) [] (B 2 (aV 19 1 5 (fw 20 4) (au 4 20) (bC 89 19 21) (fA (ax .neq 22 0) (aL 23) (dq 24 (.gO 1 (some 5) 1)) (gf 24 26 (.fH 1 4)) 24 27 (.gO 4 none 26) (gf 24 28 (.call 89 [25,27])) (gf 24 29 (.fV .neq 28 (k 0))) (bA 24 29) (am 18 30)) (N 18 (aB 2 6 .ret) (dX 32 0 4 (f 34 1 4) (au 4 34) (aI (ay .geq 33 35) 31 36) (N 31 (aB 2 7 .ret) (aX 38 2 4 (l 39 4 2 38) (o 40 (.call 90 [39,(.const (.int .i64 (Int.negSucc 958))),(k 959),(k 1919)])) (o 41 (.not 40)) (am 37 41) (eS 37 1)))))))) 42 14 1 14 42)) (cB 2))
def Gq:List Ze:=[(.aW 2)]
def Dt:aU Tryz.prog 397 1 HX Gq:=fN [(1,1),(4,4),(5,1),(6,1),(10,1),(11,1),(20,4),(26,4),(32,4),(34,4),(38,4)] Tryz.func397
def IH:Zc:=bn 1 (.eE 1 [1,12,24,31] 0) (al 2) (eO 10 (dz 3) (S (dd 4 0 15 11 4 (eZ 12 3) (dN 12) (aO 13) (bQ 11 14) 1 (dJ 5 (S (dd 6 2 21 18 6 (dm 19) (aO 19) (ba 18 20) [] 3 (dX 24 3 1 (fx 26) (aF 27 2 25) (aY (o 28 (.fE 0 27)) (aJ 28) 7 29) (bM 4 37 30 7 (eZ 31 3) (dN 31) (fx 33) (ce (aF 34 2 32) (o 35 (.fE 1 34)) (aJ 35) (ay .leq 30 36)) 5 (dk 40 5 (ff 41) (dm 42) (dW 43) (a8 (cH 44 42) (aJ 44) (o 46 (.raw (.call (.mk (.builtin .append) #[41,45] #[45,45])) 45)) (eJ 47) (o 48 (.fJ 3 1 [z0] [(0,(1,47))])) (o 49 (.raw (.call (.mk (.builtin .append) #[46,48] #[45,45])) 45)) (o 50 (.fJ 45 1 [s0] [(0,(1,49))])) (o 51 (.raw (.call (.mk (.builtin .append) #[40,50] #[57,57])) 57)) (am 5 51))) 38 39 7)) 22 23 6) (.fK (aI (di 52) 3 52)))) 16 17 4) (dJ 8 (S (dd 9 6 56 53 9 (dm 54) (aO 54) (ba 53 55) [] 7 (aj [aN 59 1 5,dm 60,dP 61,cH 62 60,aJ 62,bC 87 59 63] (bF 64 (az 65 8 (dm 66) (dP 67) (cH 68 66) (cm (aJ 68) (o 70 (.fJ 45 1 [s0] [(0,(1,69))])) (o 71 (.raw (.call (.mk (.builtin .append) #[65,70] #[57,57])) 57)) 8 71)))) 57 58 9) (eH 72 8 2)))))
def Fi:List Ze:=[(.aW 2)]
def Cp:aU Tryz.prog 20 1 IH Fi:=fN [(1,1),(12,1),(24,1),(31,1)] Tryz.func20
def JP:Zc:=bZ 1 (.eE 1 [1,4,9,15,20] 0) 2 (aK (dX 4 0 1 (o 6 (.call 71 [5,(k 0),(k 99)])) (o 7 (.not 6)) (fh 7 (dq 8 (.fH 1 1)) (gf 8 10 (.gO 1 none 9)) (gf 8 11 (.call 71 [10,(k 0),(k 99)])) (fA (gf 8 12 (.not 11)) (bA 8 12) (aL 13) (dq 14 (.fH 2 1)) 14 16 (.gO 1 none 15) (gf 14 17 (.call 71 [16,(k 0),(k 5)])) (gf 14 18 (.not 17)) (bA 14 18) [])) (eS 19 1)) (dX 20 3 1 (bp 94 21) (m 3 22) [] (fj 23 3 (aI (dm 25) 2 25))) (cq 26 1 5 (bp 95 26) (am 2 27) .ret))
def Fp:List Ze:=[(.aW 2)]
def Cu:aU Tryz.prog 25 1 JP Fp:=fN [(1,1),(4,1),(9,1),(15,1),(20,1)] Tryz.func25
def IA:Zc:=dA 4 (.eE 4 [4,10,14,16,21,27,29] 0) 8 (fC 9 1 (fw 10 4) (au 4 10) (ay .leq 9 11) (fh 12 (gt 13 14 (.fH 0 4)) (gt 13 15 (.gO 4 none 14)) (gt 13 16 (.fH 1 4)) (a8 (gt 13 17 (.gO 4 none 16)) (gt 13 18 (.fV .leq 15 17)) (bw 13 18) (aL 19) (gt 20 21 (.fH 1 4)) (gt 20 22 (.gO 4 none 21)) (mt 20 23 2) (gt 20 24 (.fV .leq 22 23)) (a8 (bw 20 24) (aL 25) (gt 26 27 (.fH 1 4)) (gt 26 28 (.gO 4 none 27)) (gt 26 29 (.fH 0 4)) (gt 26 30 (.gO 4 none 29)) (gt 26 31 (.fV .sub 28 30)) (mt 26 32 3) (aY (gt 26 33 (.fV .lss 31 32)) (bw 26 33) 8 34)))))
def Fc:List Ze:=[(.aW 8)]
def Dw:aU Tryz.prog 90 4 IA Fc:=fN [(4,4),(10,4),(14,4),(16,4),(21,4),(27,4),(29,4)] Tryz.func90
def IZ:Zc:=bZ 1 (.eE 1 [1,5,10,16] 0) 2 (aK (dY 5 4 1 6 (dx 7 4) [] (eS 8 2)) (dd 3 0 13 9 3 (eZ 10 4) (dN 10) (aO 11) (bQ 9 12) 1 (dX 16 4 1 (dm 18) (aF 19 4 17) (eG (bB 4 19) (du (.eC 4 [4,22,28,33,35,38] [z0,z0,z0,z0])) (bo 4 4 20)) (aK (aV 21 1 5 (fw 22 4) (au 4 22) (bC 168 21 23) (fA (o 25 (.not 24)) (aL 25) (dq 26 (.gO 1 (some 5) 1)) (gf 26 28 (.fH 1 4)) 26 29 (.gO 4 none 28) (gf 26 30 (.call 168 [27,29])) (gf 26 31 (.not 30)) (bA 26 31) []) (eS 32 6)) (dX 33 0 4 (f 35 1 4) (au 4 35) (ag (ay .geq 34 36)) (eS 37 7)) (aX 38 2 4 (l 39 4 2 38) (o 40 (.call 72 [39,(.const (.int .i64 (Int.negSucc 958))),(k 959)])) (o 41 (.not 40)) [] (eS 41 1)))) 14 15 3) (cB 2))
def Fz:List Ze:=[(.aW 2)]
def De:aU Tryz.prog 95 1 IZ Fz:=fN [(1,1),(4,4),(5,1),(10,1),(16,1),(22,4),(28,4),(33,4),(35,4),(38,4)] Tryz.func95
def HS:Zc:=bZ 1 (.eE 1 [1,3,4] 0) 2 (dS 3 0 1 3 3 (dN 4) (aO 5) (am 2 6) .ret)
def Gk:List Ze:=[(.aW 2)]
def Dp:aU Tryz.prog 165 1 HS Gk:=fN [(1,1),(3,1),(4,1)] Tryz.func165
def I9:Zc:=bJ 2 (eV 7 0 (bp 238 7) 3 (af (bY 4) (bY 5) [] (S (dd 6 0 12 9 6 (dm 10) (aO 10) (ba 9 11) [] 1 (S (bm 15 3 6 (cH 17 15) (aJ 17) (a8 (dx 18 0) (aL 19) (bX 20 5) (gt 20 22 (.fV .lss 21 (k 0))) (bw 20 22) (aL 23) (cY 24 3) (mf 24 26 6) (a8 (gf 24 27 (.gC 1 25 26)) (gf 24 28 (.ld none 27)) (gf 24 29 (.fV .lss 28 (k 0))) (mf 24 30 29) (bX 30 5) (gt 30 32 (.fV .gtr 31 (k 0))) (gf 24 33 (.pick 30 32 k0)) (bA 24 33) [])) (aE 34 (ic 35 36 4))) (bm 37 3 6 (cH 39 37) (aJ 39) (ag (ax .neq 40 0)) (bF 41 (az 42 3 (dW 43) (cH 44 42) (aJ 44) (am 5 45))))) 13 14 6) (eH 46 4 2))))
def Ed:List Ze:=[(.aW 2)]
def Bl:aU Tryz.prog 240 1 I9 Ed:=fN [] Tryz.func240
def JE:Zc:=cz 3 (cS 4 0 (ld 5 1) 6 (.raw (.unOp .neg 3 5) 3) (ld 7 1) (aY (eI 164 4 6 7) (o 9 (.not 8)) 3 9) .ret)
def Ej:List Ze:=[(.aW 3)]
def Br:aU Tryz.prog 309 2 JE Ej:=fN [] Tryz.func309
def JI:Zc:=dA 2 (.eE 2 [2,4,8,13,14,16,17] 0) 3 (aj [dB 4 1,dw 4,o 6 (.nH 1 7 1 5),aJ 6,dB 8 0,dw 8,eR (.nH 1 7 1 9),aJ 10,ay .sub 7 11,dB 13 2,cu 0 13,dw 14,dB 16 2,cu 1 16,dw 17,eI 164 12 15 18,o 20 (.not 19),m 3 20] .ret)
def En:List Ze:=[(.aW 3)]
def Bv:aU Tryz.prog 314 2 JI En:=fN [(2,2),(4,2),(8,2),(13,2),(14,2),(16,2),(17,2),(999998,0)] Tryz.func314
def HY:Zc:=cz 4 (bm 5 0 1 (cy 400 5) (ax .geq 7 0) (am 4 8) .ret)
def Gr:List Ze:=[(.aW 4)]
def Du:aU Tryz.prog 398 2 HY Gr:=fN [] Tryz.func398
def IE:Zc:=dA 2 (.eC 2 [2] [z0,z0]) 3 (dO 6 0 (aO 6) (ag (ax .eql 7 0)) (cr 8 (eG (eF 9) (bo 2 2 9) (m0 3))) (an 10 0 (o 11 (.gC 1 10 (k 0))) (aJ 11) (bp 62 12) (aD (du (.eC 4 [4,20,27] [z0,z0])) (bo 4 2 13)) (S (aB 5 1 (bM 0 17 14 5 (bg 15) (aO 15) (ba 14 16) [] 1 (.drawn [fw 20 4,au 4 20,bg 22,di 23,cH 24 22,aJ 24,(o 26 (.gE (.call (.mk (.builtin .min) #[21,25] #[3,3])) 3),none),f 27 1 4,au 4 27,bg 29,di 30,cH 31 29,aJ 31,(o 33 (.gE (.call (.mk (.builtin .max) #[28,32] #[3,3])) 3),none),bC 67 26 33,bo 4 2 34]) 18 19 5)) (cq 35 4 2 (bo 2 2 35) (ag (m1 3)) .ret))))
def Fg:List Ze:=[(.kS 2 2 (some 2)),(.aW 3)]
def Cn:aU Tryz.prog 16 1 IE Fg:=fN [(2,2),(4,4),(20,4),(27,4)] Tryz.func16
def II:Zc:=de 3 (.eE 3 [3,31,43,46,47] 0) (o 5 (.eE 5 [5] 2)) (o 6 (.eC 6 [6] [z0,z0,z0,s0,s0])) (bY 7) [] (aK (cq 12 3 5 (bp 88 12) (am 8 13) (fj 14 8 (ec (bI 16) (fc 17) 6 5 16 7 17))) (aV 18 3 5 (o 19 (.build [z0,z0,z0,s0,s0] [(0,(5,18))])) (bR 20) (cy 89 19) (am 9 21) (fj 22 9 (ec (bI 24) (dP 25) 6 5 24 7 25))) (S (cq 26 5 2 (o 27 (.call 90 [26,(k 0),(k 959),(k 960)])) (bL 28 (.not 27)) (cr 28 (aa (bI 29) (fB 6 29) (ah 7 1)))) (aj [f 31 3 3,au 3 31,bR 33,aF 34 2 32,bB 2 34,aN 36 5 2,eR (.eC 10 [10] [z0,z0]),(cy 91 35,(some false)),m 30 37,dg 38 30,dh 39 30,bo 10 2 38,m 11 39] (S (aZ 40 11 (o 41 (.not 40)) (cr 41 (aa (bI 42) (fB 6 42) (ah 7 9)))) (dX 43 3 3 (bp 92 44) (f 46 3 3) (ag (ls 3 1 46 45)) (dX 47 3 3 (bR 49) (aN 50 10 2) (aD (aF 51 2 48) (cJ 31 51 50)) (fa 52 3 5 93 52 (dg 54 53) (dh 55 53) (aI (fB 6 54) 7 55) .ret)))))))
def Fj:List Ze:=[(.kS 6 6 (some 5)),(.aW 7)]
def Cq:aU Tryz.prog 21 3 II Fj:=fN [(3,3),(5,5),(6,6),(10,10),(31,3),(43,3),(46,3),(47,3)] Tryz.func21
def JQ:Zc:=de 2 (.eE 2 [2] 0) (o 3 (.raw (.box 3 1) 0)) (al 4) (bY 5) [] (eK 12 2 5 (o 13 (.raw (.makeFunc (.func 97) #[] #[3]) 187)) 96 12 (m 11 14) (dC (dg 15 11) (dh 16 11) (o 6 (.eC 6 [6,20] [z0,z0,z0,s0,s0,s0])) (bo 6 6 15) 7 16) (S (fj 17 7 (cG 19 7 (al 4) 5 19)) (dJ 8 (S (dY 20 5 6 21 (bY 23) [] (cX 0 24 24 23 22 1 (ae (ia 25 7 21 23) (bB 7 25) (eR (.eC 10 [10,29] [z0,z0,z0,z0,z0,z0,z0])) (bo 10 7 26) [] (dk 27 8 (ld 28 3) (o 29 (.hO 1 7 10 28)) (au 10 29) (aY (o 31 (.fJ 3 1 [z0] [(0,(1,30))])) (o 32 (.raw (.call (.mk (.builtin .append) #[27,31] #[45,45])) 45)) 8 32))) 33 23 1 23 33)) (aZ 34 8 (bp 78 34) (fC 36 8 (bp 79 36) (m 4 37) (bY 5) []))))))
def Fq:List Ze:=[(.aW 4),(.aW 5)]
def Cv:aU Tryz.prog 26 2 JQ Fq:=fN [(2,2),(6,6),(10,10),(20,6),(29,10)] Tryz.func26
def JS:Zc:=dA 1 (.eE 1 [1,3,8] 0) 2 (dY 3 3 1 4 (dx 5 20) (fh 6 (dq 7 (.fH 4 1)) (gf 7 9 (.gO 1 none 8)) (gf 7 10 (.len 9)) (aY (gf 7 11 (.fV .gtr 10 (k 20))) (bA 7 11) 2 12)) .ret)
def Ft:List Ze:=[(.aW 2)]
def Cy:aU Tryz.prog 86 1 JS Ft:=fN [(1,1),(3,1),(8,1)] Tryz.func86
def JV:Zc:=de 2 (.eE 2 [2,7,12] 0) (o 3 (.eE 3 [3,9,14] 1)) ee (m0 5) [] (dX 7 0 2 (fw 9 3) (au 3 9) (a8 (o 11 (.gE (.call (.mk (.builtin .max) #[8,10] #[3,3])) 3)) (dB 12 1) (dw 12) (f 14 1 3) (au 3 14) (o 16 (.gE (.call (.mk (.builtin .min) #[13,15] #[3,3])) 3)) (o 17 (.build [z0,z0] [(0,(1,11)),(1,(1,16))])) (o 6 (.eC 6 [6,19,21] [z0,z0])) (ag (bo 6 2 17))) (aj [aN 18 6 2,fw 19 6,au 6 19,f 21 1 6,au 6 21,ay .leq 20 22,bo 4 2 18,m 5 23] .ret))
def Fv:List Ze:=[(.kS 4 4 (some 2)),(.aW 5)]
def Da:aU Tryz.prog 91 2 JV Fv:=fN [(2,2),(3,3),(4,4),(6,6),(7,2),(9,3),(12,2),(14,3),(19,6),(21,6)] Tryz.func91
def I0:Zc:=aG 2 (.eE 2 [2] 0) (du (.eC 4 [4] [z0,z0,z0,s0,s0,s0])) (dy 5) (S (cq 10 2 5 (bp 88 10) (am 6 11) (fj 12 6 (ec (o 14 (.build [z0,z0,z0,s0,s0,s0] [])) (dW 15) 4 6 14 5 15))) (aV 16 2 5 (o 17 (.build [z0,z0,z0,s0,s0] [(0,(5,16))])) (o 7 (.eC 7 [7] [z0,z0,z0,s0,s0])) (fB 7 17) [] (S (cS 18 1 (aN 19 7 5) 20 (.raw (.call (.mk (.value 18) #[19] #[173])) 39) (m 8 20) [] (fj 21 8 (ec (o 23 (.build [z0,z0,z0,s0,s0,s0] [])) (fc 24) 4 6 23 5 24))) (cq 25 7 5 (bp 169 25) (am 9 26) (dO 27 9 (aO 27) (ag (ax .eql 28 0)) (cr 29 (aa (o 30 (.build [z0,z0,z0,s0,s0,s0] [])) (bo 4 6 30) (ah 5 9))) (aV 31 7 5 (dP 32) (o 33 (.build [z0,z0,z0,s0,s0,s0] [(0,(5,31)),(5,(1,32))])) (bo 4 6 33) (dy 5) .ret))))))
def Ga:List Ze:=[(.kS 4 4 (some 6)),(.aW 5)]
def Df:aU Tryz.prog 96 2 I0 Ga:=fN [(2,2),(4,4),(7,7)] Tryz.func96
def I3:Zc:=bZ 1 (.eE 1 [1] 0) 2 (cB 2)
def Gd:List Ze:=[(.aW 2)]
def Di:aU Tryz.prog 166 1 I3 Gd:=fN [(1,1)] Tryz.func166
def JA:Zc:=bn 2 (.raw (.box 173 0) 0) (o 3 (.raw (.box 365 1) 0)) (aC (du (.raw (.alloc 189) 0)) (eQ 5 (.raw (.alloc 157) 0) (bn 6 (.raw (.makeFunc (.func 307) #[] #[2,3,4,5]) 157) (cJ 157 5 6) (.fK (aD (ld 7 5) (o 8 (.raw (.call (.mk (.value 7) #[(k 0)] #[3])) 4)))))))
def Ee:List Ze:=[]
def Bm:aU Tryz.prog 241 2 JA Ee:=fN [] Tryz.func241
def NA:Zc:=aG 2 (.eE 2 [2] 0) (o 3 (.raw (.box 189 1) 0)) (ag (al 4)) (fa 5 2 5 165 5 (o 7 (.gE (.slice 189 3 none (some 6) none) 45)) (bp 350 7) (aI (bp 350 8) 4 9) .ret)
def Gh:List Ze:=[(.aW 4)]
def Bg:aU Tryz.prog 310 2 NA Gh:=fN [(2,2)] Tryz.func310
def HZ:Zc:=dA 1 (.eE 1 [1] 0) 2 (aV 3 1 2 (du (.call 90 [3,(k 0),(k 959),(k 3)])) (o 5 (.not 4)) (di 2) [] .ret)
def Fb:List Ze:=[(.aW 2)]
def Dv:aU Tryz.prog 399 1 HZ Fb:=fN [(1,1)] Tryz.func399
end
def BO{P:fP}{d:Option Nat}{next:fG->Hp->Prop}{σ:fG}{H:Hp}{x:Operand}{t b:TypeId}{n:Int}(e:σ.get x=some (vi n))(a:rY (-n))(h:next (σ.set d (vi (-n))) H):(fR.raw (.unOp .neg t x) b).m P d next σ H:=by refine YX (by simp[Op.operands,e]) (s:=Op.unary .neg (vi n)) (by simp[execOp,fL,e]) ?_;have:(0:Int)-n=-n:=O;simp only[Op.unary,Op.intArith,Zj,this,V8 a];exact h
theorem IW{α:Type}{p:List α->Prop}(c:p [])(d:∀l x,p l->p (l++[x])):∀l,p l:=by
 have:∀(n:Nat) (l:List α),l.length=n->p l:=by
  intro n;induction n with
  | zero=>intro l a;rw[qAr a];exact c
  | succ n ih=>
   intro l a;have b:l≠[]:=by rintro rfl;simp at a
   rw[<-List.dropLast_concat_getLast b];exact d _ _ (ih _ (by simp;omega))
 exact λl=>this _ l rfl
section
open Go.Z
def ID:Zc:=de 7 (.eE 7 [7] 0) (o 9 (.eE 9 [9,44,50,67] 2)) (o 12 (.eE 12 [12] 5)) (m0 14) [] (S (fa 27 7 5 18 27 (o 29 (.not 28)) (aL 29) (ac (dq 30 (.gO 9 (some 5) 9)) (gf 30 32 (.call 19 [31])) (gf 30 33 (.not 32)) (bA 30 33) (fh 34 (dq 35 (.gO 9 (some 5) 9)) (gf 35 37 (.call 20 [36])) (gf 35 38 (.len 37)) (aD (gf 35 39 (.fV .eql 38 (k 0))) (bA 35 39)))) (cr 40 (aI (c0 41 10) 14 41))) (aj [dm 42,o 43 (.gE (.convert 5 3 42) 3),f 44 3 9,au 9 44,aO 45,o 47 (.gE (.binOp .rem 3 43 46 3) 3),fx 48,o 49 (.gE (.convert 5 3 48) 3),f 50 3 9,au 9 50,aO 51,o 53 (.gE (.binOp .rem 3 49 52 3) 3),m 15 47,m 16 53] (aV 55 9 5 (m 56 15) (aN 57 12 2) (eI 21 55 56 57) (az 54 58 (dg 59 54) (dh 60 54) (o 17 (.eC 17 [17] [z0,z0,z0,s0,s0])) (aI (fB 17 59) 18 60)) (aK (fj 61 18 (aI (c0 63 10) 14 63)) (aj [aN 64 17 5,aN 65 9 5,m 66 15,f 67 3 9,au 9 67,m 69 15,aF 70 2 68,bB 2 70,aN 72 12 2,(cy 24 71,(some false)),(eI 23 65 66 73,(some false)),bC 22 64 74,o 76 (.not 75),aL 76,dq 77 (.gO 17 (some 5) 17),gf 77 79 (.call 25 [78]),gf 77 80 (.fV .neq 79 (k 0)),bA 77 80] (cj 81 14)) (eK 83 9 5 (m 84 16) 26 83 (m 82 85) (cm (dg 86 82) (dh 87 82) (m 19 86) 20 87) (eK 89 17 5 (m 90 16) 26 89 (m 88 91) (cm (dg 92 88) (dh 93 88) (m 21 92) 22 93) (an 95 19 (bp 16 95) (m 94 96) (dg 97 94) (ec (dh 98 94) (o 23 (.eC 23 [23] [z0,z0])) 23 2 97 24 98) (an 100 21 (bp 16 100) (m 99 101) (dg 102 99) (ec (dh 103 99) (o 25 (.eC 25 [25] [z0,z0])) 25 2 102 26 103) (fC 104 20 (ax .eql 104 0) (aL 105) (bX 106 22) (a8 (gt 106 108 (.fV .eql 107 (k 0))) (bw 106 108) (aL 109) (bX 110 24) (bw 110 111) (aL 112) (bX 113 26) (bw 113 114) (fh 115 (gt 116 117 (.gO 7 (some 5) 7)) (mt 116 118 1) (gt 116 119 (.gO 23 (some 2) 23)) (ac (gt 116 120 (.gO 25 (some 2) 25)) (mt 116 121 6) (gt 116 122 (.call 27 [117,118,119,120,121])) (bw 116 122) (fh 123 (gt 124 125 (.call 10 [])) (bw 124 125) (m 14 126) [])))))))))))))
def IK:List Ze:=[(.aW 14)]
def Cm:aU Tryz.prog 4 7 ID IK:=fN [(7,7),(9,9),(12,12),(17,17),(23,23),(25,25),(44,9),(50,9),(67,9)] Tryz.func4
end
def pB(x:Int):List Int->List Int
 | []=>[x]
 | y :: r=>if y<x then y :: pB x r else if y=x then y :: r else x :: y :: r
def l8(l:List Int):List Int:=l.foldl (λo x=>pB x o) []
def M7(x:Int):∀l,(pB x l).length<=l.length+1
 | []=>by simp[pB]
 | y :: r=>by
  rw[pB];have:=M7 x r;split
  ·simp only[qAF];omega
  split<;>simp
def Cl:∀l:List Int,(l8 l).length<=l.length:=by refine IW (by simp[l8]) λl x ih=>?_;have:=M7 x (l8 l);rw[l8,qCs,IN,qAW];show(pB x (l8 l)).length<=_;omega
def ER:∀{l m:List Int},l.Pairwise (·<·)->m.Pairwise (·<·)->(∀x,x∈l↔x∈m)->l=m
 | [],[],_,_,_=>rfl
 | [],y :: m,_,_,h=>by have:=(h y).2 (qAB ..);simp at this
 | x :: l,[],_,_,h=>by have:=(h x).1 (qAB ..);simp at this
 | x :: l,y :: m,g,i,h=>by
  obtain⟨f,j⟩:=qBF.1 g;obtain⟨m1,k⟩:=qBF.1 i;have c:x=y:=by
   have d:=(h x).1 (qAB ..);have e:=(h y).2 (qAB ..);rcases qAi.1 d with rfl | d
   ·rfl
   rcases qAi.1 e with rfl | e
   ·rfl
   have:=f y e;have:=m1 x d;omega
  subst c;congr 1;refine ER j k λz=>⟨λb=>?_,λb=>?_⟩
  ·rcases qAi.1 ((h z).1 (qAm _ b))with rfl | a
   ·have:=f z b;omega
   exact a
  rcases qAi.1 ((h z).2 (qAm _ b))with rfl | a
  ·have:=m1 z b;omega
  exact a
def FA(x:Int):∀(l:List Int) (z:Int),z∈pB x l↔z=x\/z∈l
 | [],z=>by simp[pB]
 | y :: r,z=>by
  rw[pB];have ih:=FA x r z;split
  ·rw[qAi,ih,qAi];constructor
   ·rintro(h | h | h)
    ·exact .inr (.inl h)
    ·exact .inl h
    exact .inr (.inr h)
   rintro(h | h | h)
   ·exact .inr (.inl h)
   ·exact .inl h
   exact .inr (.inr h)
  split
  ·rename_i h;subst h;rw[qAi];constructor
   ·exact .inr
   rintro(h | h)
   ·exact .inl h
   exact h
  rw[qAi]
def M8(x:Int):∀{l:List Int},l.Pairwise (·<·)->(pB x l).Pairwise (·<·)
 | [],_=>by simp[pB]
 | y :: r,h=>by
  obtain⟨b,c⟩:=qBF.1 h;rw[pB];split
  ·rename_i d;refine qBF.2 ⟨λz a=>?_,M8 x c⟩;rcases(FA x r z).1 a with rfl | a
   ·exact d
   exact b z a
  split
  ·exact h
  refine qBF.2 ⟨λz a=>?_,h⟩;rcases qAi.1 a with rfl | a
  ·omega
  have:=b z a;omega
def JK:∀l:List Int,(l8 l).Pairwise (·<·)/\∀z,z∈l8 l↔z∈l:=by
 refine IW ⟨.nil,λz=>qDe⟩ λl x ih=>?_;have e:l8 (l++[x])=pB x (l8 l):=by rw[l8,qCs];rfl
 rw[e];refine⟨M8 x ih.1,λz=>?_⟩;rw[FA,ih.2 z,qAj,iO];exact Or.comm
def Cd{l m:List Int}(h:l.Pairwise (·<=·))(e:∀z,z∈l↔z∈m):UE l=l8 m:=by obtain⟨a,b,_⟩:=ZmL h l.length (DO _);obtain⟨c,d⟩:=JK m;exact ER a c λz=>by rw[UE,b,d,qAh];exact e z
