import Derived.Test.YtmfealhfgccmfaaGreatDoorP38
set_option linter.all false
set_option maxHeartbeats 8000000
set_option maxRecDepth 40000
section
namespace Go.LL
def Hp.Sub.trans{H c a:Hp}(h:H.Sub c)(d:c.Sub a):H.Sub a:=⟨λb x e=>d.mem b x (h.mem b x e),d.gh.trans h.gh⟩
end Go.LL
end
open Go Go.LL
namespace Go.Proofs
section
open Go.Z
def JI:Zc:=dA 1 (.eE 1 [1,6] 0) 2 (fa 3 1 5 18 3 (aL 4) (gt 5 6 (.fH 4 1)) (dC (gt 5 7 (.gO 1 none 6)) (gt 5 8 (.len 7)) (gt 5 9 (.fV .lss 8 (k 3))) (bw 5 9) 2 10) .ret)
def Ez:List Ze:=[(.aW 2)]
def Db:aU Tryz.prog 7 1 JI Ez:=fN [(1,1),(6,1)] Tryz.func7
def JJ:Zc:=de 5 (.eE 5 [5,24,34] 0) (o 7 (.eE 7 [7] 2)) (o 8 (.eE 8 [8] 3)) (m0 10) [] (S (eK 17 7 2 (aN 18 8 2) 80 17 (o 20 (.not 19)) [] (cj 20 10)) (cS 21 1 (o 22 (.gE (.convert 5 3 21) 3)) 23 (.gE (.binOp .quo 3 22 (k 16) 3) 3) (f 24 3 5) (dC (au 5 24) (aO 25) (o 27 (.gE (.binOp .rem 3 23 26 3) 3)) (o 28 (.fJ 3 1 [z0] [(0,(1,27))])) 11 28) (S (an 29 11 (o 30 (.gC 1 29 (k 0))) (aJ 30) (eD 31) (am 12 32) (bM 0 37 33 12 (f 34 3 5) (au 5 34) (aO 35) (bQ 33 36) 1 (bm 40 1 12 (o 42 (.gE (.binOp .shr 5 40 41 3) 5)) (o 43 (.gE (.binOp .and 5 42 (yP 1) 5) 5)) (bL 44 (.fV .eql 43 (yP 1))) (bF 44 (az 45 11 (dE 46) (o 47 (.fJ 3 1 [z0] [(0,(1,46))])) (o 48 (.raw (.call (.mk (.builtin .append) #[45,47] #[45,45])) 45)) (am 11 48)))) 38 39 12)) (aj [aN 50 5 5,db 51,aN 52 7 2,o 13 (.eC 13 [13] [z0,z0,z0,s0,s0]),(o 53 (.call 82 [52,(k 0),(k 80)]),(some false)),o 54 (.build [s0,z0,z0] [(0,(1,51)),(1,(2,53))]),(bC 81 50 54,(some false)),m 49 55,dg 56 49,dh 57 49,fB 13 56,m 14 57] (aj [aN 59 5 5,db 60,aN 61 8 2,o 15 (.eC 15 [15] [z0,z0,z0,s0,s0]),(o 62 (.call 82 [61,(k 0),(k 80)]),(some false)),o 63 (.build [s0,z0,z0] [(0,(1,60)),(1,(2,62))]),(bC 81 59 63,(some false)),m 58 64,dg 65 58,dh 66 58,fB 15 65,m 16 66] (aV 67 5 5 (aN 68 13 5) (aN 69 15 5) (m 70 14) (az 71 16 (fx 72) (bR 73) (o 74 (.call 83 [67,68,69,70,71,72,73])) (am 10 74)) .ret))))))
def Fa:List Ze:=[(.aW 10)]
def Dc:aU Tryz.prog 17 5 JJ Fa:=fN [(5,5),(7,7),(8,8),(13,13),(15,15),(24,5),(34,5)] Tryz.func17
def IK:Zc:=aG 2 (.eE 2 [2,8] 0) (dI 3) (bL 4 (.eC 4 [4] [z0,s0,s0,s0])) (cq 6 2 4 (o 5 (.eC 5 [5,14] [z0,s0,s0,s0])) (ag (bo 5 4 6)) (aj [dB 8 3,dw 8,aN 11 3 3,eP,(o 7 (.raw (.buildSlice 69 0 #[]) 69),(some false)),eP,(eR (.raw (.call (.mk (.builtin .append) #[7,9] #[69,69])) 69),(some false)),(o 12 (.fJ 73 1 [s0,z0,z0] [(0,(3,11))]),(some false)),(o 13 (.raw (.call (.mk (.builtin .append) #[10,12] #[69,69])) 69),none),f 14 3 5,ls 5 1 14 13] (cq 15 5 4 (bo 4 4 15) [] .ret)))
def Hr:List Ze:=[(.kS 4 4 (some 4))]
def Dg:aU Tryz.prog 32 2 IK Hr:=fN [(2,2),(3,3),(4,4),(5,5),(8,2),(14,5)] Tryz.func32
def IM:Zc:=dJ 2 (S (aZ 3 0 (du (.gE (.binOp .eql 52 3 (.const s0) 52) 4)) (bz 4 (al 2))) (de 5 (.raw (.buildSlice 52 0 #[]) 52) (bg 6) (o 7 (.raw (.call (.mk (.builtin .append) #[5,6] #[52,52])) 52)) (eJ 2) [] .ret))
def Hu:List Ze:=[(.aW 2)]
def Di:aU Tryz.prog 92 1 IM Hu:=fN [] Tryz.func92
def IR:Zc:=aG 1 (.eE 1 [1] 0) (o 2 (.eC 2 [2] [z0,s0,s0,s0])) (dy 3) (S (aV 7 1 4 (o 8 (.call 108 [7,(.func 109)])) (fc 6) (dg 9 6) (ec (dh 10 6) eY 4 5 9 5 10) (fj 11 5 (ec (o 13 (.build [z0,s0,s0,s0] [])) (di 14) 2 4 13 3 14))) (fa 15 1 4 176 15 (bo 2 4 16) (bY 3) [] .ret))
def Hy:List Ze:=[(.kS 2 2 (some 4)),(.aW 3)]
def Dl:aU Tryz.prog 102 1 IR Hy:=fN [(1,1),(2,2),(4,4)] Tryz.func102
def I4:Zc:=bZ 1 (.eE 1 [1,6,11,17,28] 0) 2 (aK (dY 6 3 1 7 (dx 8 4) [] (eS 9 2)) (dd 3 0 14 10 3 (eZ 11 3) (dN 11) (aO 12) (bQ 10 13) 1 (dX 17 3 1 (dm 19) (aF 20 3 18) (eG (bB 3 20) (du (.eC 4 [4,22,26,35] [s0,z0,z0])) (bo 4 3 21)) (aK (dY 22 0 4 23 (ax .eql 24 0) [] (eS 25 2)) (dX 26 0 4 (eZ 28 1) (dN 28) (aY (aO 29) (bC 162 27 30) 5 31) (fj 32 5 (aI (di 34) 2 34))) (aX 35 1 4 (l 36 4 2 35) (o 37 (.call 72 [36,(k 0),(k 120)])) (o 38 (.not 37)) [] (eS 38 1)))) 15 16 3) (cB 2))
def Ei:List Ze:=[(.aW 2)]
def Dx:aU Tryz.prog 107 1 I4 Ei:=fN [(1,1),(4,4),(6,1),(11,1),(17,1),(22,4),(26,4),(28,1),(35,4)] Tryz.func107
def I5:Zc:=bZ 1 (.eE 1 [1,3,4] 0) 2 (S (dS 3 0 1 0 3 (dN 4) (o 6 (.call 244 [5,(k 0),(k 3)])) (bL 7 (.not 6)) (eS 7 1)) (cB 2))
def Ej:List Ze:=[(.aW 2)]
def Dy:aU Tryz.prog 172 1 I5 Ej:=fN [(1,1),(3,1),(4,1)] Tryz.func172
def IW:Zc:=cz 4 (aK (an 6 0 (aO 6) (bR 8) (aO 8) (ag (ay .neq 7 9)) (cj 10 4)) (dd 5 0 14 11 5 (bg 12) (aO 12) (ba 11 13) [] 1 (aj [bg 17,di 18,aF 19 2 17,bB 2 19,bR 21,di 22,aF 23 2 21,bB 2 23,o 25 (.gE (.binOp .neq 31 20 24 31) 4)] (cj 25 4)) 15 16 5) (dM (m1 4)))
def Gv:List Ze:=[(.aW 4)]
def Bn:aU Tryz.prog 177 2 IW Gv:=fN [] Tryz.func177
def JA:Zc:=dA 2 (.eE 2 [2,4] 0) 3 (dX 4 0 2 (o 6 (.fE 0 1)) (aJ 6) (aI (o 8 (.gE (.binOp .eql 9 5 7 9) 4)) 3 8) .ret)
def Ep:List Ze:=[(.aW 3)]
def Cr:aU Tryz.prog 247 2 JA Ep:=fN [(2,2),(4,2)] Tryz.func247
def JD:Zc:=cz 4 (bm 5 0 1 (cy 352 5) (ax .geq 7 0) (am 4 8) .ret)
def Eu:List Ze:=[(.aW 4)]
def Cv:aU Tryz.prog 316 2 JD Eu:=fN [] Tryz.func316
def JW:Zc:=dA 1 (.eE 1 [1] 0) 2 (fa 3 1 4 98 3 (o 5 (.not 4)) (aL 5) (dC (gt 6 7 (.gO 1 (some 4) 1)) (gt 6 8 (.call 33 [7])) (gt 6 9 (.fV .eql 8 (k 0))) (bw 6 9) 2 10) .ret)
def Ea:List Ze:=[(.aW 2)]
def Dp:aU Tryz.prog 28 1 JW Ea:=fN [(1,1)] Tryz.func28
def IY:Zc:=bZ 1 (.eE 1 [1,6,10,16,21,27,31] 0) 2 (aK (dX 6 0 1 (o 8 (.call 71 [7,(k 0),(k 3)])) (o 9 (.not 8)) [] (eS 9 1)) (dX 10 1 1 (bp 105 11) (dE 3) [] (fj 13 3 (aI (dm 15) 2 15))) (aK (dY 16 2 1 17 (dx 18 3) [] (eS 19 2)) (dd 4 0 24 20 4 (eZ 21 2) (dN 21) (aO 22) (bQ 20 23) 1 (aj [eZ 27 2,dN 27,fx 29,o 30 (.gE (.slice 68 28 none (some 29) none) 68),eZ 31 2,dN 31,fx 33,aF 34 3 32,bB 3 34,bC 106 30 35,m 5 36] (fj 37 5 (aI (di 39) 2 39))) 25 26 4) (cq 40 1 4 (bp 107 40) (am 2 41) .ret)))
def Ec:List Ze:=[(.aW 2)]
def Dr:aU Tryz.prog 33 1 IY Ec:=fN [(1,1),(6,1),(10,1),(16,1),(21,1),(27,1),(31,1)] Tryz.func33
def JX:Zc:=dA 1 (.eE 1 [1,6,11,17,23,29,38,44,51,57] 0) 2 (aK (dY 6 1 1 7 (dx 8 20) (fh 9 (dq 10 (.fH 2 1)) (gf 10 12 (.gO 1 none 11)) (gf 10 13 (.len 12)) (fA (gf 10 14 (.fV .gtr 13 (k 20))) (bA 10 14) (aL 15) (dq 16 (.fH 3 1)) 16 18 (.gO 1 none 17) (gf 16 19 (.len 18)) (gf 16 20 (.fV .gtr 19 (k 20))) (bA 16 20) [])) (bz 21 (m1 2))) (dd 3 0 26 22 3 (eZ 23 1) (dN 23) (aO 24) (bQ 22 25) 1 (dX 29 1 1 (dm 31) (aF 32 4 30) (ce (o 33 (.fE 0 32)) (aJ 33) (o 35 (.raw (.call (.mk (.builtin .len) #[34] #[9])) 3)) (dx 35 100)) (bz 36 (m1 2))) 27 28 3) (aK (dd 4 2 41 37 4 (eZ 38 2) (dN 38) (aO 39) (bQ 37 40) 3 (dX 44 2 1 (fx 46) (aF 47 3 45) (aD (bB 3 47) (bp 170 48)) (bz 49 (m1 2))) 42 43 4) (dd 5 4 54 50 5 (eZ 51 3) (dN 51) (aO 52) (bQ 50 53) 5 (dX 57 3 1 (di 59) (aF 60 3 58) (ce (o 61 (.fE 0 60)) (aJ 61) (aO 62) (dx 63 20)) (bz 64 (m1 2))) 55 56 5) (cz 2 .ret)))
def Eb:List Ze:=[(.aW 2)]
def Dq:aU Tryz.prog 98 1 JX Eb:=fN [(1,1),(6,1),(11,1),(17,1),(23,1),(29,1),(38,1),(44,1),(51,1),(57,1)] Tryz.func98
def IS:Zc:=aG 2 (.eE 2 [2,5,11,18] 0) (o 3 (.eE 3 [3,7,13,20] 1)) (ag (m0 4)) (dX 5 0 2 (fw 7 3) (au 3 7) (a8 (o 9 (.gE (.binOp .eql 9 6 8 9) 4)) (aL 9) (gt 10 11 (.fH 1 2)) (gt 10 12 (.gO 2 none 11)) (dZ 10 13) (gt 10 14 (.gO 3 none 13)) (gt 10 15 (.fV .eql 12 14)) (bw 10 15) (fh 16 (gt 17 18 (.fH 2 2)) (gt 17 19 (.gO 2 none 18)) (gt 17 20 (.fH 2 3)) (cm (gt 17 21 (.gO 3 none 20)) (gt 17 22 (.call 177 [19,21])) (bw 17 22) 4 23))) .ret)
def Hz:List Ze:=[(.aW 4)]
def Dm:aU Tryz.prog 103 2 IS Hz:=fN [(2,2),(3,3),(5,2),(7,3),(11,2),(13,3),(18,2),(20,3)] Tryz.func103
def EM:Zc:=aG 2 (.eE 2 [2] 0) eY (dy 5) (S (cq 10 2 4 (bp 100 10) (am 6 11) (fj 12 6 (ec (dG 14) (dW 15) 4 5 14 5 15))) (aV 16 2 4 (o 17 (.build [z0,s0,s0,s0] [(0,(4,16))])) (o 7 (.eC 7 [7] [z0,s0,s0,s0])) (bo 7 4 17) [] (S (cS 18 1 (aN 19 7 4) 20 (.raw (.call (.mk (.value 18) #[19] #[202])) 39) (m 8 20) [] (fj 21 8 (ec (dG 23) (fc 24) 4 5 23 5 24))) (cq 25 7 4 (bp 179 25) (am 9 26) (dO 27 9 (aO 27) (ag (ax .eql 28 0)) (cr 29 (aa (dG 30) (fB 4 30) (ah 5 9))) (aV 31 7 4 (dP 32) (o 33 (.build [z0,s0,s0,s0,s0] [(0,(4,31)),(4,(1,32))])) (fB 4 33) (dy 5) .ret))))))
def Gs:List Ze:=[(.kS 4 4 (some 5)),(.aW 5)]
def Dn:aU Tryz.prog 108 2 EM Gs:=fN [(2,2),(4,4),(7,7)] Tryz.func108
def I6:Zc:=bZ 1 (.eE 1 [1,5,6,11,12,26,27] 0) 2 (aK (dS 5 0 1 1 5 (dN 6) (aO 7) (aD (o 9 (.call 244 [8,(k 1),(k 3)])) (eR (.not 9))) (eS 10 2)) (dS 11 0 1 1 11 (dN 12) (aO 13) (dy 15) (cX 0 16 16 15 14 1 (an 17 15 (ia 18 4 13 15) (bB 4 18) (du (.raw (.alloc 191) 0)) (aD (m 3 17) (cJ 191 4 19)) (B 2 (de 21 (.fE 0 4) (aJ 21) (bp 245 22) (o 24 (.not 23)) (am 20 24) (N 20 (aB 2 4 .ret) (dS 26 0 1 1 26 (dN 27) (dm 29) (cm (o 30 (.gE (.slice 67 28 none (some 29) none) 67)) (o 31 (.raw (.makeFunc (.func 247) #[] #[4]) 367)) (cy 246 30) 25 32) (N 25 (aB 2 5 .ret) (S (de 34 (.fE 1 4) (bB 2 34) (o 36 (.call 248 [35,(k 1),(k 40),(k 3)])) (o 37 (.not 36)) (am 33 37) (N 33 .skip (.fK (dC (o 38 (.fE 3 4)) (aJ 38) (o 40 (.call 244 [39,(k 0),(k 2)])) (o 41 (.not 40)) 33 41)))) (eS 33 1)))))))) 42 15 1 15 42)) (cB 2))
def Ek:List Ze:=[(.aW 2)]
def Cm:aU Tryz.prog 173 1 I6 Ek:=fN [(1,1),(5,1),(6,1),(11,1),(12,1),(26,1),(27,1)] Tryz.func173
def y8:Zc:=dA 4 (.eE 4 [4,10,14,16,21,27,29] 0) 8 (fC 9 1 (fw 10 4) (au 4 10) (ay .leq 9 11) (fh 12 (gt 13 14 (.fH 0 4)) (gt 13 15 (.gO 4 none 14)) (gt 13 16 (.fH 1 4)) (a8 (gt 13 17 (.gO 4 none 16)) (gt 13 18 (.fV .leq 15 17)) (bw 13 18) (aL 19) (gt 20 21 (.fH 1 4)) (gt 20 22 (.gO 4 none 21)) (mt 20 23 2) (gt 20 24 (.fV .leq 22 23)) (a8 (bw 20 24) (aL 25) (gt 26 27 (.fH 1 4)) (gt 26 28 (.gO 4 none 27)) (gt 26 29 (.fH 0 4)) (gt 26 30 (.gO 4 none 29)) (gt 26 31 (.fV .sub 28 30)) (mt 26 32 3) (aY (gt 26 33 (.fV .lss 31 32)) (bw 26 33) 8 34)))))
def Er:List Ze:=[(.aW 8)]
def IA:aU Tryz.prog 248 4 y8 Er:=fN [(4,4),(10,4),(14,4),(16,4),(21,4),(27,4),(29,4)] Tryz.func248
def EO:Zc:=bn 2 (.raw (.box 202 0) 0) (o 3 (.raw (.box 422 1) 0)) (aC (du (.raw (.alloc 210) 0)) (eQ 5 (.raw (.alloc 157) 0) (bn 6 (.raw (.makeFunc (.func 318) #[] #[2,4,3,5]) 157) (cJ 157 5 6) (.fK (aD (ld 7 5) (o 8 (.raw (.call (.mk (.value 7) #[(k 0)] #[3])) 4)))))))
def Gx:List Ze:=[]
def Br:aU Tryz.prog 253 2 EO Gx:=fN [] Tryz.func253
def JE:Zc:=dA 2 (.eE 2 [2,4] 0) 3 (dX 4 0 2 (o 6 (.fE 0 1)) (aJ 6) (aI (o 8 (.gE (.binOp .eql 9 5 7 9) 4)) 3 8) .ret)
def Ev:List Ze:=[(.aW 3)]
def Cw:aU Tryz.prog 317 2 JE Ev:=fN [(2,2),(4,2)] Tryz.func317
def ES:Zc:=bJ 4 (dO 6 0 (aO 6) (dy 8) (cX 0 9 9 8 7 1 (cO 10 8 5 (bm 11 1 0 (di 13) (aF 14 3 12) (aD (bB 3 14) (o 16 (.raw (.call (.mk (.value 11) #[15] #[73])) 4))) (cr 16 (aI (di 17) 4 17)))) 18 8 1 8 18) (dM (aP 4)))
def Hg:List Ze:=[(.aW 4)]
def Bv:aU Tryz.prog 368 2 ES Hg:=fN [] Tryz.func368
def JK:Zc:=bn 1 (.eE 1 [1,12,24,32] 0) (al 2) (eO 10 (dz 3) (S (dd 4 0 15 11 4 (eZ 12 1) (dN 12) (aO 13) (bQ 11 14) 1 (dJ 5 (S (dd 6 2 21 18 6 (dm 19) (aO 19) (ba 18 20) [] 3 (dX 24 1 1 (fx 26) (aF 27 4 25) (cm (o 28 (.fE 1 27)) (o 29 (.fE 0 28)) (aJ 29) 7 30) (bM 4 39 31 7 (eZ 32 1) (dN 32) (fx 34) (ac (aF 35 4 33) (o 36 (.fE 1 35)) (o 37 (.fE 1 36)) (aJ 37) (ag (ay .leq 31 38))) 5 (dk 42 5 (ff 43) (dm 44) (dW 45) (a8 (cH 46 44) (aJ 46) (o 48 (.raw (.call (.mk (.builtin .append) #[43,47] #[45,45])) 45)) (eJ 49) (o 50 (.fJ 3 1 [z0] [(0,(1,49))])) (o 51 (.raw (.call (.mk (.builtin .append) #[48,50] #[45,45])) 45)) (o 52 (.fJ 45 1 [s0] [(0,(1,51))])) (o 53 (.raw (.call (.mk (.builtin .append) #[42,52] #[57,57])) 57)) (am 5 53))) 40 41 7)) 22 23 6) (.fK (aI (di 54) 3 54)))) 16 17 4) (dJ 8 (S (dd 9 6 58 55 9 (dm 56) (aO 56) (ba 55 57) [] 7 (aj [aN 61 1 4,dm 62,dP 63,cH 64 62,aJ 64,bC 99 61 65] (bF 66 (az 67 8 (dm 68) (dP 69) (cH 70 68) (cm (aJ 70) (o 72 (.fJ 45 1 [s0] [(0,(1,71))])) (o 73 (.raw (.call (.mk (.builtin .append) #[67,72] #[57,57])) 57)) 8 73)))) 59 60 9) (eH 74 8 2)))))
def Hn:List Ze:=[(.aW 2)]
def Dd:aU Tryz.prog 29 1 JK Hn:=fN [(1,1),(12,1),(24,1),(32,1)] Tryz.func29
def IL:Zc:=aG 1 (.eE 1 [1] 0) (o 2 (.eC 2 [2] [z0,z0])) (dy 3) (aV 13 1 4 (o 14 (.call 108 [13,(.func 109)])) (m 12 14) (dg 15 12) (ec (dh 16 12) (du (.eC 4 [4,21] [z0,s0,s0,s0,s0])) 4 5 15 5 16) (S (fj 17 5 (ec (eF 19) (di 20) 2 2 19 3 20)) (eQ 6 (.eC 6 [6,42,46] [z0,z0]) (S (dY 21 4 4 22 (bY 24) [] (cX 0 25 25 24 23 1 (an 26 24 (ia 27 3 22 24) (bB 3 27) (o 8 (.eC 8 [8] [z0,z0,z0])) (aD (m 7 26) (bo 8 3 28)) (bJ 9 (aK (cq 29 8 3 (bY 30) [] (cf 2 31 (fu 30 3) 3 (bn 32 (.raw (.index 210 29 30) 3) (m 11 32) (dk 33 9 (db 34) (dT 33) (m 9 35) [])) 36 30 1 30 36)) (bx 37 7 .eql 37 0 (bF 38 (az 39 9 (dP 40) (o 41 (.build [z0,z0] [(0,(1,39)),(1,(1,40))])) (bo 6 2 41) []))) (.fK (a8 (fw 42 6) (au 6 42) (dP 44) (o 45 (.gE (.call (.mk (.builtin .min) #[43,44] #[3,3])) 3)) (f 46 1 6) (au 6 46) (dP 48) (o 49 (.gE (.call (.mk (.builtin .max) #[47,48] #[3,3])) 3)) (aD (o 50 (.build [z0,z0] [(0,(1,45)),(1,(1,49))])) (bo 6 2 50))))))) 51 24 1 24 51)) (cq 52 6 2 (bo 2 2 52) (dy 3) .ret)))))
def Ht:List Ze:=[(.kS 2 2 (some 2)),(.aW 3)]
def Dh:aU Tryz.prog 34 1 IL Ht:=fN [(1,1),(2,2),(4,4),(6,6),(8,8),(21,4),(42,6),(46,6)] Tryz.func34
def IP:Zc:=dA 2 (.eE 2 [2,18,25,35,41] 0) 4 (aK (dd 5 0 11 8 5 (bR 9) (aO 9) (ba 8 10) [] 1 (aj [bR 14,di 15,cH 16 14,aJ 16,dB 18 1,dw 18,di 20,aF 21 4 19,o 22 (.fE 1 21),o 23 (.fE 0 22),aJ 23,dB 25 1,dw 25,di 27,aF 28 4 26,o 29 (.fE 1 28),o 30 (.fE 1 29),aJ 30,eI 71 17 24 31,o 33 (.not 32)] (cj 33 4)) 12 13 5) (dd 6 2 38 34 6 (dB 35 3) (dw 35) (aO 36) (bQ 34 37) 3 (dX 41 3 2 (dW 43) (aF 44 3 42) (eG (bB 3 44) (o 7 (.eC 7 [7,47,50,51,53,54] [s0,z0,z0])) (bo 7 3 45)) (aj [bR 46,fw 47 7,au 7 47,f 50 1 7,cu 0 50,au 7 51,f 53 1 7,cu 1 53,au 7 54,(bC 171 46 48,(some false)),eI 71 49 52 55,o 57 (.not 56)] (cj 57 4))) 39 40 6) (dM (m1 4)))
def Hw:List Ze:=[(.aW 4)]
def Dj:aU Tryz.prog 99 2 IP Hw:=fN [(2,2),(7,7),(18,2),(25,2),(35,2),(41,2),(47,7),(50,7),(51,7),(53,7),(54,7)] Tryz.func99
def IT:Zc:=bZ 1 (.eE 1 [1] 0) 2 (cB 2)
def QO:List Ze:=[(.aW 2)]
def Bj:aU Tryz.prog 109 1 IT QO:=fN [(1,1)] Tryz.func109
def E0:Zc:=bZ 1 (.eE 1 [1,6,7,11,12,21,22] 0) 2 (aK (dS 6 0 1 2 6 (dN 7) (aO 8) (ag (dx 9 3)) (eS 10 2)) (dS 11 0 1 2 11 (dN 12) (aO 13) (dy 15) (cX 0 16 16 15 14 1 (S (dk 17 15 (ia 18 3 13 15) (bB 3 18) (du (.eC 4 [4] [(.string (.mk #[])),z0,s0])) (aD (m 3 17) (bo 4 3 19))) (aj [aN 20 4 3,eZ 21 0,cu 2 21,dN 22,dm 24,o 25 (.gE (.slice 68 23 none (some 24) none) 68),bC 249 20 25,m 5 26] (fj 27 5 (aI (di 29) 2 29)))) 30 15 1 15 30)) (cB 2))
def El:List Ze:=[(.aW 2)]
def Cn:aU Tryz.prog 174 1 E0 El:=fN [(1,1),(4,4),(6,1),(7,1),(11,1),(12,1),(21,1),(22,1)] Tryz.func174
def JH:Zc:=bn 1 (.raw (.box 202 0) 0) (al 2) (eQ 3 (.raw (.alloc 203) 0) (S (af (lm 5 4 1) (o 6 (.raw (.makeFunc (.func 253) #[5] #[]) 372)) [] (B 0 (.nZ 6 [7] (.fK [o 4 (.raw (.alloc 210) 0),st 210 4 7 0]) (B 1 (.fK [ld 8 3,lm 9 3 4,o 10 (.fJ 210 1 [z0,z0,z0] [(0,(3,9))]),o 11 (.raw (.call (.mk (.builtin .append) #[8,10] #[203,203])) 203),st 203 3 11 0]))))) (af (ld 12 3) (dE 2) [] .ret)))
def Ey:List Ze:=[(.aW 2)]
def Cz:aU Tryz.prog 179 1 JH Ey:=fN [] Tryz.func179
def I0:Zc:=cz 6 (bm 7 1 0 (eT 7) (aL 9) (dC (bX 10 0) (mt 10 12 2) (gt 10 13 (.fV .leq 11 12)) (bw 10 13) 6 14) .ret)
def Ee:List Ze:=[(.aW 6)]
def Dt:aU Tryz.prog 244 3 I0 Ee:=fN [] Tryz.func244
def JB:Zc:=bZ 2 (.raw (.box 197 0) 0) 4 (S (B 0 (de 9 (.fE 0 2) (aJ 9) (bp 245 10) (o 12 (.not 11)) (am 8 12) (N 8 (aB 4 4 .ret) (an 14 1 (o 15 (.raw (.makeFunc (.func 317) #[] #[2]) 296)) (cy 316 14) (m 13 16) [] (N 13 (aB 4 5 .ret) (de 18 (.fE 1 2) (aJ 18) (o 20 (.call 244 [19,(k 1),(k 40)])) (o 21 (.not 20)) (am 17 21) (N 17 (aB 4 1 .ret) (de 23 (.fE 2 2) (aJ 23) (aO 24) (dx 25 3) (am 22 26) (bj 22 4 2))))))))) (aC (aP 5) (S (de 27 (.fE 2 2) (aJ 27) (aO 28) (bY 30) [] (cX 1 31 31 30 29 2 (ae (ia 32 2 28 30) (bB 2 32) (o 7 (.eC 7 [7,42,46] [z0,z0])) (bo 7 2 33) [] (aK (aV 34 7 2 (o 35 (.fE 1 2)) (aJ 35) (cZ 36) (ce (o 38 (.fE 1 2)) (aJ 38) (o 40 (.call 248 [34,(k 0),37,39])) (o 41 (.not 40))) (bj 41 4 1)) (dX 42 0 7 (di 44) (eT 43) [] (bj 45 4 7)) (.fK (aY (f 46 1 7) (au 7 46) 5 47)))) 48 30 1 30 48)) (cB 4))))
def Es:List Ze:=[(.aW 4)]
def Cs:aU Tryz.prog 249 2 JB Es:=fN [(7,7),(42,7),(46,7)] Tryz.func249
def y9:Zc:=cz 6 (aK (cS 8 0 (o 9 (.fE 0 1)) 10 (.fE 1 9) (aJ 10) (aD (aO 11) (ay .eql 8 12)) (cr 13 (ac (lm 14 4 1) (lm 15 3 2) (cy 319 14) (o 17 (.not 16)) (fh 17 (dq 18 (.ld none 3)) (gf 18 20 (.ld (some 3) 2)) (gf 18 21 (.raw (.call (.mk (.value 19) #[20] #[210])) 4)) (aI (bA 18 21) 6 22))))) (de 23 (.fE 0 1) (o 24 (.fE 1 23)) (aJ 24) (bg 26) (dC (aF 27 4 25) (o 28 (.fE 1 27)) (o 29 (.fE 0 28)) (aJ 29) 7 30) (bM 0 40 31 7 (o 32 (.fE 0 1)) (o 33 (.fE 1 32)) (aJ 33) (az 35 0 (aF 36 4 34) (o 37 (.fE 1 36)) (o 38 (.fE 1 37)) (aD (aJ 38) (ay .leq 31 39))) 1 (bm 43 0 7 (o 45 (.raw (.indexAddr 210 2 43) 0)) (cJ 3 45 44) [] (ae (ld 46 4) (bg 47) (eD 47) (o 49 (.raw (.call (.mk (.value 46) #[48] #[3])) 4)) (bL 50 (.not 49)) (cj 50 6))) 41 42 7)) (dM (m1 6)))
def Gy:List Ze:=[(.aW 6)]
def IB:aU Tryz.prog 318 5 y9 Gy:=fN [] Tryz.func318
def JF:Zc:=bJ 4 (dO 6 0 (aO 6) (dy 8) (cX 0 9 9 8 7 1 (cO 10 8 5 (bm 11 1 0 (di 13) (aF 14 3 12) (aD (bB 3 14) (o 16 (.raw (.call (.mk (.value 11) #[15] #[197])) 4))) (cr 16 (aI (di 17) 4 17)))) 18 8 1 8 18) (dM (aP 4)))
def Ew:List Ze:=[(.aW 4)]
def Cy:aU Tryz.prog 352 2 JF Ew:=fN [] Tryz.func352
def JL:Zc:=de 2 (.eE 2 [2,13,19] 0) (dI 3) (du (.eC 4 [4] [z0,s0,s0,s0])) (bY 5) [] (S (cq 7 2 4 (bp 100 7) (am 6 8) (fj 9 6 (ec (o 11 (.build [z0,s0,s0,s0] [])) (dW 12) 4 4 11 5 12))) (aj [dB 13 3,dw 13,aN 16 3 3,u (.build [s0,z0,z0] [(0,(3,16))]),(bp 101 14,(some false)),(o 17 (.fJ 73 1 [s0,z0,z0] [(0,(3,16))]),(some false)),(o 18 (.raw (.call (.mk (.builtin .append) #[15,17] #[69,69])) 69),none),dB 19 3,ls 2 1 19 18] (fa 20 2 4 102 20 (dg 22 21) (dh 23 21) (aI (bo 4 4 22) 5 23) .ret)))
def Ho:List Ze:=[(.kS 4 4 (some 4)),(.aW 5)]
def De:aU Tryz.prog 30 2 JL Ho:=fN [(2,2),(3,3),(4,4),(13,2),(19,2)] Tryz.func30
def IZ:Zc:=bZ 1 (.eE 1 [1] 0) 2 (aV 7 1 4 (o 8 (.build [z0,s0,s0,s0] [(0,(4,7))])) (o 3 (.eC 3 [3] [z0,s0,s0,s0])) (bo 3 4 8) [] (S (aV 9 3 4 (eR (.raw (.makeFunc (.func 172) #[9] #[]) 297)) (aN 11 3 4) (o 12 (.raw (.makeFunc (.func 173) #[11] #[]) 297)) (ac (aN 13 3 4) (o 14 (.raw (.makeFunc (.func 174) #[13] #[]) 297)) (aN 15 3 4) (o 16 (.raw (.makeFunc (.func 175) #[15] #[]) 297)) (aa (o 17 (.fJ 297 4 [.nilFunc,.nilFunc,.nilFunc,.nilFunc] [(0,(1,10)),(1,(1,12)),(2,(1,14)),(3,(1,16))])) (aO 17) (dy 19))) (cX 0 20 20 19 18 1 (af (ia 21 1 17 19) (aJ 21) (am 5 22) (eV 23 5 (o 24 (.raw (.call (.mk (.value 23) #[] #[])) 39)) 6 (fj 25 6 (aI (dW 27) 2 27)))) 28 19 1 19 28)) (cB 2)))
def Ed:List Ze:=[(.aW 2)]
def Ds:aU Tryz.prog 100 1 IZ Ed:=fN [(1,1),(3,3)] Tryz.func100
def I2:Zc:=bJ 2 (aK (cS 6 0 (aO 6) 8 (.call 71 [7,(k 1),(k 3)]) (o 9 (.not 8)) [] (eS 9 2)) (dd 3 0 13 10 3 (bg 11) (aO 11) (ba 10 12) [] 1 (aK (bm 16 0 3 (aF 18 4 16) (o 19 (.fE 0 18)) (aa (aJ 19) (bp 178 20) (bL 22 (.not 21))) (eS 22 4)) (bJ 4 (bt 2 25 (aa (fx 23) (dm 24) (bQ 23 24)) 3 (aj [bg 28,fx 29,aF 30 4 28,o 31 (.fE 0 30),aJ 31,bg 33,dm 34,aF 35 4 33,o 36 (.fE 0 35),aJ 36,o 38 (.gE (.binOp .eql 9 32 37 9) 4)] (eS 38 5)) 26 27 4)) (bm 39 0 3 (aF 41 4 39) (o 42 (.fE 1 41)) (eG (bB 2 42) (o 5 (.eC 5 [5,48,50] [z0,z0])) (bo 5 2 43)) (aV 44 5 2 (o 45 (.call 72 [44,(k 1),(k 40)])) (o 46 (.not 45)) (aL 46) (fA (dq 47 (.fH 1 5)) (gf 47 49 (.gO 5 none 48)) (gf 47 50 (.fH 0 5)) (gf 47 51 (.gO 5 none 50)) 47 52 (.fV .sub 49 51) (gf 47 53 (.fV .geq 52 (k 3))) (bA 47 53) (aL 54) (fA (cY 55 0) (mf 55 57 3) (gf 55 58 (.gC 4 56 57)) (gf 55 59 (.fE 3 58)) 55 60 (.ld none 59) (gf 55 61 (.call 71 [60,(k 0),(k 2)])) (gf 55 62 (.not 61)) (bA 55 62) [])) (eS 63 1)))) 14 15 3) (cB 2))
def Eg:List Ze:=[(.aW 2)]
def Dv:aU Tryz.prog 105 1 I2 Eg:=fN [(5,5),(48,5),(50,5)] Tryz.func105
def I1:Zc:=dA 1 (.eE 1 [1,3,8] 0) 2 (dX 3 0 1 (o 5 (.raw (.call (.mk (.builtin .len) #[4] #[9])) 3)) (dx 5 100) (fh 6 (dq 7 (.fH 2 1)) (gf 7 9 (.gO 1 none 8)) (gf 7 10 (.len 9)) (aY (gf 7 11 (.fV .gtr 10 (k 20))) (bA 7 11) 2 12)) .ret)
def Ef:List Ze:=[(.aW 2)]
def Du:aU Tryz.prog 170 1 I1 Ef:=fN [(1,1),(3,1),(8,1)] Tryz.func170
def I7:Zc:=bZ 1 (.eE 1 [1,7,8,12,13,34,35] 0) 2 (aK (dS 7 0 1 3 7 (dN 8) (aO 9) (ag (dx 10 4)) (eS 11 2)) (dS 12 0 1 3 12 (dN 13) (aO 14) (dy 16) (cX 0 17 17 16 15 1 (ae (ia 18 3 14 16) (bB 3 18) (du (.eC 4 [4,20,24,46,55] [s0,z0,z0])) (bo 4 3 19) [] (aK (dY 20 0 4 21 (ax .eql 22 0) [] (eS 23 2)) (dY 24 0 4 25 (bY 27) [] (cX 2 28 28 27 26 3 (an 29 27 (ia 30 1 25 27) (aJ 30) (m 5 29) (am 6 31) (B 4 (an 33 6 (eZ 34 0) (cu 1 34) (dN 35) (dC (aO 36) (cZ 37) (o 39 (.call 244 [33,(k 0),38])) (o 40 (.not 39)) 32 40) (N 32 (aB 2 6 .ret) (an 42 5 (dx 42 0) (aL 43) (bX 44 6) (a8 (gt 44 46 (.fH 0 4)) (gt 44 47 (.gO 4 none 46)) (mt 44 48 5) (gt 44 49 (.fV .sub 48 (k 1))) (gt 44 50 (.gC 1 47 49)) (gt 44 51 (.ld none 50)) (gt 44 52 (.fV .leq 45 51)) (bw 44 52) (am 41 53)) (eS 41 7)))))) 54 27 1 27 54)) (aX 55 1 4 (l 56 4 2 55) (o 57 (.call 248 [56,(k 0),(k 120),(k 121)])) (o 58 (.not 57)) [] (eS 58 1)))) 59 16 1 16 59)) (cB 2))
def Em:List Ze:=[(.aW 2)]
def Co:aU Tryz.prog 175 1 I7 Em:=fN [(1,1),(4,4),(7,1),(8,1),(12,1),(13,1),(20,4),(24,4),(34,1),(35,1),(46,4),(55,4)] Tryz.func175
def I8:Zc:=cz 2 (S (an 5 0 (o 6 (sH 9 419 5 419)) (aO 6) (bY 8) [] (cX 0 9 9 8 7 1 (an 10 8 (ia 11 1 6 8) (aJ 11) (dz 3) (am 4 12) (an 13 4 (o 14 (.fV .geq 13 (yP 97))) (aL 14) (bX 15 4) (fA (gt 15 17 (.fV .leq 16 (yP 122))) (bw 15 17) (aL 18) (cY 19 3) 19 21 (.fV .gtr 20 (k 0)) (mf 19 22 21) (bX 22 4) (gt 22 24 (.fV .geq 23 (yP 48))) (ac (gf 19 25 (.pick 22 24 k0)) (mf 19 26 25) (bX 26 4) (gt 26 28 (.fV .leq 27 (yP 57))) (aa (gf 19 29 (.pick 26 28 k0)) (bA 19 29) (bL 31 (.not 30))))) (cj 31 2))) 32 8 1 8 32)) (cS 33 0 (o 34 (.raw (.call (.mk (.builtin .len) #[33] #[9])) 3)) 35 (.call 244 [34,(k 1),(k 10)]) (m 2 35) [] .ret))
def En:List Ze:=[(.aW 2)]
def Cp:aU Tryz.prog 245 1 I8 En:=fN [] Tryz.func245
def IX:Zc:=dJ 2 (S (aZ 3 0 (du (.gE (.binOp .eql 67 3 (.const s0) 67) 4)) (bz 4 (al 2))) (de 5 (.raw (.buildSlice 67 0 #[]) 67) (bg 6) (o 7 (.raw (.call (.mk (.builtin .append) #[5,6] #[67,67])) 67)) (eJ 2) [] .ret))
def QP:List Ze:=[(.aW 2)]
def Bo:aU Tryz.prog 250 1 IX QP:=fN [] Tryz.func250
def EP:Zc:=aG 2 (.eE 2 [2,5,6] 0) (o 3 (.raw (.box 210 1) 0)) (ag (m0 4)) (dS 5 0 2 3 5 (dw 6) (o 8 (.raw (.makeFunc (.func 354) #[] #[3]) 457)) (aY (cy 353 7) (eR (.not 9)) 4 10) .ret)
def Gz:List Ze:=[(.aW 4)]
def Bs:aU Tryz.prog 319 2 EP Gz:=fN [(2,2),(5,2),(6,2)] Tryz.func319
def EQ:Zc:=cz 4 (bm 5 0 1 (cy 368 5) (ax .geq 7 0) (am 4 8) .ret)
def Hd:List Ze:=[(.aW 4)]
def Bt:aU Tryz.prog 353 2 EQ Hd:=fN [] Tryz.func353
def JM:Zc:=aG 2 (.eE 2 [2,8,14,23,32,41,47,59,65,78,84,98] 0) (o 3 (.eE 3 [3,10,17,26,35,52,70,90,104] 1)) (ag (m0 4)) (aK (dX 8 0 2 (fw 10 3) (au 3 10) (fA (ay .neq 9 11) (aL 12) (dq 13 (.fH 1 2)) (gf 13 15 (.gO 2 none 14)) 13 16 (.len 15) (gf 13 17 (.fH 1 3)) (gf 13 18 (.gO 3 none 17)) (gf 13 19 (.len 18)) (fA (gf 13 20 (.fV .neq 16 19)) (bA 13 20) (aL 21) (dq 22 (.fH 2 2)) 22 24 (.gO 2 none 23) (gf 22 25 (.len 24)) (gf 22 26 (.fH 2 3)) (gf 22 27 (.gO 3 none 26)) (a8 (gf 22 28 (.len 27)) (gf 22 29 (.fV .neq 25 28)) (bA 22 29) (aL 30) (dq 31 (.fH 3 2)) (gf 31 33 (.gO 2 none 32)) (gf 31 34 (.len 33)) (gf 31 35 (.fH 3 3)) (ce (gf 31 36 (.gO 3 none 35)) (gf 31 37 (.len 36)) (gf 31 38 (.fV .neq 34 37)) (bA 31 38))))) (cj 39 4)) (dd 5 0 44 40 5 (dB 41 1) (dw 41) (aO 42) (bQ 40 43) 1 (aj [dB 47 1,dw 47,di 49,aF 50 4 48,bB 4 50,f 52 1 3,au 3 52,di 54,aF 55 4 53,bB 4 55,o 57 (.gE (.binOp .neq 191 51 56 191) 4)] (cj 57 4)) 45 46 5) (aK (dd 6 2 62 58 6 (dB 59 2) (dw 59) (aO 60) (bQ 58 61) 3 (aj [dB 65 2,dw 65,dW 67,aF 68 3 66,bB 3 68,f 70 2 3,au 3 70,dW 72,aF 73 3 71,bB 3 73,bC 103 69 74,o 76 (.not 75)] (cj 76 4)) 63 64 6) (dd 7 4 81 77 7 (dB 78 3) (dw 78) (aO 79) (bQ 77 80) 5 (aj [(dB 84 3,none),(dw 84,none),(eJ 86,none),(aF 87 3 85,none),(o 88 (.fE 1 87),none),(bB 2 88,none),(f 90 3 3,none),(au 3 90,none),(eJ 92,none),(aF 93 3 91,none),(o 94 (.fE 1 93),none),(bB 2 94,none),(o 96 (.gE (.binOp .neq 31 89 95 31) 4),none),(aL 96,none),(dq 97 (.fH 3 2),none),(gf 97 99 (.gO 2 none 98),none),(mf 97 100 7,none),(gf 97 101 (.gC 3 99 100),none),(gf 97 102 (.fE 0 101),none),(gf 97 103 (.ld none 102),none),(gf 97 104 (.fH 3 3),none),(gf 97 105 (.gO 3 none 104),none),(mf 97 106 7,none),(gf 97 107 (.gC 3 105 106),none),(gf 97 108 (.fE 0 107),none),(gf 97 109 (.ld none 108),none),(gf 97 110 (.call 104 [103,109]),none),(gf 97 111 (.not 110),none),(bA 97 111,none)] (cj 112 4)) 82 83 7) (dM (m1 4))))
def Hq:List Ze:=[(.aW 4)]
def Df:aU Tryz.prog 31 2 JM Hq:=fN [(2,2),(3,3),(8,2),(10,3),(14,2),(17,3),(23,2),(26,3),(32,2),(35,3),(41,2),(47,2),(52,3),(59,2),(65,2),(70,3),(78,2),(84,2),(90,3),(98,2),(104,3)] Tryz.func31
def JV:Zc:=de 2 (.eE 2 [2,13,19] 0) (dI 3) (du (.eC 4 [4] [z0,z0,z0,s0,s0])) (bY 5) [] (S (cq 7 2 5 (bp 129 7) (am 6 8) (fj 9 6 (ec (bI 11) (dW 12) 4 5 11 5 12))) (aj [dB 13 4,dw 13,aN 16 3 3,u (.build [s0,z0,z0] [(0,(3,16))]),(bp 159 14,(some false)),(o 17 (.fJ 137 1 [s0,z0,z0] [(0,(3,16))]),(some false)),(o 18 (.raw (.call (.mk (.builtin .append) #[15,17] #[23,23])) 23),none),dB 19 4,ls 2 1 19 18] (fa 20 2 5 145 20 (dg 22 21) (dh 23 21) (aI (fB 4 22) 5 23) .ret)))
def Dz:List Ze:=[(.kS 4 4 (some 5)),(.aW 5)]
def Bi:aU Tryz.prog 81 2 JV Dz:=fN [(2,2),(3,3),(4,4),(13,2),(19,2)] Tryz.func81
def IQ:Zc:=dJ 2 (S (aZ 3 0 (du (.gE (.binOp .eql 69 3 (.const s0) 69) 4)) (bz 4 (al 2))) (de 5 (.raw (.buildSlice 69 0 #[]) 69) (bg 6) (o 7 (.raw (.call (.mk (.builtin .append) #[5,6] #[69,69])) 69)) (eJ 2) [] .ret))
def Hx:List Ze:=[(.aW 2)]
def Dk:aU Tryz.prog 101 1 IQ Hx:=fN [] Tryz.func101
def I3:Zc:=bZ 3 (.eE 3 [3,7,22,25,29,34,40,45,53,59] 1) 4 (aK (dX 7 0 3 (bp 178 8) (eR (.not 9)) [] (bj 10 4 4)) (dd 5 0 14 11 5 (bg 12) (aO 12) (ba 11 13) [] 1 (aj [bg 17,di 18,aF 19 3 17,o 20 (.fE 0 19),aJ 20,fw 22 3,au 3 22,o 24 (.gE (.binOp .eql 9 21 23 9) 4)] (bj 24 4 5)) 15 16 5) (aK (dX 25 1 3 (o 27 (.call 71 [26,(k 1),(k 40)])) (o 28 (.not 27)) [] (bj 28 4 1)) (dY 29 2 3 30 (dx 31 3) [] (bj 32 4 2)) (S (dd 6 2 37 33 6 (f 34 2 3) (au 3 34) (aO 35) (bQ 33 36) 3 (ez [f 40 2 3,au 3 40,dW 42,aF 43 2 41,bB 2 43,f 45 1 3,au 3 45,cZ 46,o 48 (.call 72 [44,(k 0),47]),o 49 (.not 48)] (bj 49 4 1) (aj [dW 50,dx 50 0,aL 51,gt 52 53 (.fH 2 3),gt 52 54 (.gO 3 none 53),mt 52 55 6,gt 52 56 (.gC 2 54 55),gt 52 57 (.fE 0 56),gt 52 58 (.ld none 57),gt 52 59 (.fH 2 3),gt 52 60 (.gO 3 none 59),mt 52 61 6,gt 52 62 (.fV .sub 61 (k 1)),gt 52 63 (.gC 2 60 62),gt 52 64 (.fE 1 63),gt 52 65 (.ld none 64),gt 52 66 (.fV .leq 58 65),bw 52 66] (bj 67 4 7))) 38 39 6) (cB 4))))
def Eh:List Ze:=[(.aW 4)]
def Dw:aU Tryz.prog 106 2 I3 Eh:=fN [(3,3),(7,3),(22,3),(25,3),(29,3),(34,3),(40,3),(45,3),(53,3),(59,3)] Tryz.func106
def IU:Zc:=bJ 4 (bJ 5 (S (dd 6 0 10 7 6 (bR 8) (aO 8) (ba 7 9) [] 1 (dk 13 5 (bg 14) (bR 15) (dW 16) (ac (cH 17 15) (aJ 17) (eh 1 14 18) (aJ 19) (aI (eu 13 20) 5 21))) 11 12 6) (eH 22 5 4)))
def Gt:List Ze:=[(.aW 4)]
def Bl:aU Tryz.prog 171 2 IU Gt:=fN [] Tryz.func171
def IV:Zc:=bn 1 (.eE 1 [1,7,10,13,16,17,18,19,27,36,44] 0) (o 2 (.eC 2 [2] [z0,s0,s0,s0])) (aj [eZ 7 1,dN 7,eZ 10 2,dN 10,eZ 13 3,dN 13,(bp 250 8,(some false)),eZ 16 1,(bp 251 11,(some false)),(bp 101 14,(some false)),ls 1 1 16 9,eZ 17 2,ls 1 1 17 12,eZ 18 3,ls 1 1 18 15] (aK (dY 19 2 1 20 (bY 22) [] (cX 0 23 23 22 21 1 (S (dk 24 22 (ia 25 3 20 22) (bB 3 25) (du (.eC 4 [4,30] [(.string (.mk #[])),z0,s0])) (aD (m 3 24) (bo 4 3 26))) (.drawn [eZ 27 2,dN 27,dm 29,f 30 2 4,au 4 30,(bp 92 31,(some false)),aF 33 3 28,o 34 (.fE 2 33),cJ 52 34 32])) 35 22 1 22 35)) (dY 36 3 1 37 (bY 39) [] (cX 2 40 40 39 38 3 (an 41 39 (ia 42 3 37 39) (bB 3 42) (o 6 (.eC 6 [6,47] [s0,z0,z0])) (aD (m 5 41) (bo 6 3 43)) (.drawn [eZ 44 3,dN 44,di 46,fw 47 6,au 6 47,(bp 195 48,(some false)),aF 50 3 45,o 51 (.fE 0 50),cJ 45 51 49])) 52 39 1 39 52)) (cq 53 1 4 (bo 2 4 53) [] .ret)))
def Gu:List Ze:=[(.kS 2 2 (some 4))]
def Bm:aU Tryz.prog 176 1 IV Gu:=fN [(1,1),(2,2),(4,4),(6,6),(7,1),(10,1),(13,1),(16,1),(17,1),(18,1),(19,1),(27,1),(30,4),(36,1),(44,1),(47,6)] Tryz.func176
def I9:Zc:=cz 4 (bm 5 0 1 (cy 315 5) (ax .geq 7 0) (am 4 8) .ret)
def Eo:List Ze:=[(.aW 4)]
def Cq:aU Tryz.prog 246 2 I9 Eo:=fN [] Tryz.func246
def EN:Zc:=dJ 2 (S (aZ 3 0 (du (.gE (.binOp .eql 68 3 (.const s0) 68) 4)) (bz 4 (al 2))) (de 5 (.raw (.buildSlice 68 0 #[]) 68) (bg 6) (o 7 (.raw (.call (.mk (.builtin .append) #[5,6] #[68,68])) 68)) (eJ 2) [] .ret))
def Gw:List Ze:=[(.aW 2)]
def Bq:aU Tryz.prog 251 1 EN Gw:=fN [] Tryz.func251
def JC:Zc:=bJ 4 (dO 6 0 (aO 6) (dy 8) (cX 0 9 9 8 7 1 (cO 10 8 5 (bm 11 1 0 (di 13) (aF 14 4 12) (aD (bB 4 14) (o 16 (.raw (.call (.mk (.value 11) #[15] #[191])) 4))) (cr 16 (aI (di 17) 4 17)))) 18 8 1 8 18) (dM (aP 4)))
def Et:List Ze:=[(.aW 4)]
def Cu:aU Tryz.prog 315 2 JC Et:=fN [] Tryz.func315
def ER:Zc:=dA 2 (.eE 2 [2,7,21,22,24,25] 0) 3 (bJ 4 (S (dY 7 0 2 8 (bY 10) [] (cX 0 11 11 10 9 1 (af (ia 12 1 8 10) (aJ 12) (am 6 13) (dk 14 4 (dW 15) (o 16 (.raw (.indexAddr 210 1 15) 0)) (aJ 16) (aI (eu 14 17) 4 18))) 19 10 1 10 19)) (fC 20 4 (dB 21 1) (cu 0 21) (dw 22) (ac (dB 24 1) (cu 1 24) (dw 25) (eI 244 20 23 26) (aI (o 28 (.not 27)) 3 28)))))
def He:List Ze:=[(.aW 3)]
def Bu:aU Tryz.prog 354 2 ER He:=fN [(2,2),(7,2),(21,2),(22,2),(24,2),(25,2)] Tryz.func354
end
def IH{α:Type}[Enc α](x:α):Zd [x]=Enc.enc x:=by simp[Zd]
section
open Go.Z
def E4:Zc:=de 5 (.eE 5 [5] 0) (o 7 (.eE 7 [7] 2)) (o 8 (.eE 8 [8,26] 3)) (m0 10) [] (S (fa 17 5 5 7 17 (o 19 (.not 18)) (aL 19) (ac (dq 20 (.gO 7 (some 4) 7)) (gf 20 22 (.call 28 [21])) (gf 20 23 (.not 22)) (bA 20 23) (fh 24 (dq 25 (.fH 0 8)) (gf 25 27 (.gO 8 none 26)) (gf 25 28 (.len 27)) (fA (gf 25 29 (.fV .gtr 28 (k 20))) (bA 25 29) (aL 30) (dq 31 (.gO 7 (some 4) 7)) 31 33 (.call 29 [32]) (gf 31 34 (.len 33)) (gf 31 35 (.fV .eql 34 (k 0))) (bA 31 35) []))) (cr 36 (aI (c0 37 10) 10 37))) (eK 39 7 4 (aN 40 8 3) 30 39 (m 38 41) (dC (dg 42 38) (dh 43 38) (o 11 (.eC 11 [11] [z0,s0,s0,s0])) (bo 11 4 42) 12 43) (aK (fj 44 12 (aI (c0 46 10) 10 46)) (aj [aN 47 11 4,aN 48 7 4,aN 49 8 3,(cy 32 48,(some false)),bC 31 47 50,o 52 (.not 51),aL 52,dq 53 (.gO 11 (some 4) 11),gf 53 55 (.call 33 [54]),gf 53 56 (.fV .neq 55 (k 0)),bA 53 56] (cj 57 10)) (fa 59 7 4 34 59 (m 58 60) (dg 61 58) (ec (dh 62 58) (o 13 (.eC 13 [13] [z0,z0])) 13 2 61 14 62) (fa 64 11 4 34 64 (m 63 65) (dg 66 63) (ec (dh 67 63) (o 15 (.eC 15 [15] [z0,z0])) 15 2 66 16 67) (fC 68 14 (ax .eql 68 0) (aL 69) (bX 70 16) (a8 (gt 70 72 (.fV .eql 71 (k 0))) (bw 70 72) (aL 73) (gt 74 75 (.gO 5 (some 5) 5)) (mt 74 76 1) (gt 74 77 (.gO 13 (some 2) 13)) (gt 74 78 (.gO 15 (some 2) 15)) (mt 74 79 4) (ac (gt 74 80 (.call 17 [75,76,77,78,79])) (bw 74 80) (aL 81) (gt 82 83 (.call 10 [])) (aI (bw 82 83) 10 84)))))))))
def EU:List Ze:=[(.aW 10)]
def Da:aU Tryz.prog 5 5 E4 EU:=fN [(5,5),(7,7),(8,8),(11,11),(13,13),(15,15),(26,8)] Tryz.func5
end
section
variable{P:fP}[Tz P][Loud P]{H:Hp}
def Wfo{u w:Value}{a:List Int}(d:dF H u a)(hb:dF H w a)(c:a.length<=1000000):LL.Zb P 104 #[u,w] H λv b=>H=b/\v=vb true:=
 LL.Zb.mono (Zz1 d hb c c) λv b h=>⟨h.1,h.2.trans (by rw[decide_eq_true rfl])⟩
end
