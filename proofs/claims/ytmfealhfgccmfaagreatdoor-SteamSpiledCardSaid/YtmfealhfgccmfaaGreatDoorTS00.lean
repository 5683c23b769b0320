import Derived.Test.YtmfealhfgccmfaaGreatDoorP38
set_option linter.all false
set_option maxHeartbeats 2000000
def GI{G:Prop}(h:G:=by
  intro j hj;match j,hj with
  | 0,_=>exact⟨by decide,by decide⟩
  | 1,_=>exact⟨by decide,by decide⟩
  | 2,_=>exact⟨by decide,by decide⟩
  | 3,_=>exact⟨by decide,by decide⟩):G:=h
open Go Go.LL
namespace Go.Proofs
structure zD where
 (ml mh bl bh w:Int)
structure nT where
 (p gl gh:Int)
structure Bk where
 (op sl:Int)
 (fM:List zD)
 (iE:List nT)
instance:Enc zD:=⟨5,λp=>[vi p.ml,vi p.mh,vi p.bl,vi p.bh,vi p.w],λ_=>rfl⟩
instance:Enc nT:=⟨3,λc=>[vi c.p,vi c.gl,vi c.gh],λ_=>rfl⟩
def iM(H:Hp)(v:Value)(b:Bk):Prop:=∃c a,v=.agg #[vi b.op,vi b.sl,c,a]/\dF H c b.fM/\dF H a b.iE
section
open Go.Z
def I7:Zc:=dA 1 (.eE 1 [1,6] 0) 2 (fa 3 1 5 18 3 (aL 4) (gt 5 6 (.fH 4 1)) (dC (gt 5 7 (.gO 1 none 6)) (gt 5 8 (.len 7)) (gt 5 9 (.fV .lss 8 (k 3))) (bw 5 9) 2 10) .ret)
def Ev:List Ze:=[(.aW 2)]
def Bz:aU Tryz.prog 7 1 I7 Ev:=fN [(1,1),(6,1)] Tryz.func7
def n43:Zc:=aG 2 (.eE 2 [2,7,13,20,29,38,44,56,62] 0) (o 3 (.eE 3 [3,9,15,23,32,49,67] 1)) (ag (m0 4)) (aK (dX 7 0 2 (fw 9 3) (au 3 9) (fA (ay .neq 8 10) (aL 11) (dq 12 (.fH 1 2)) (gf 12 14 (.gO 2 none 13)) 12 15 (.fH 1 3) (gf 12 16 (.gO 3 none 15)) (gf 12 17 (.fV .neq 14 16)) (bA 12 17) (fh 18 (dq 19 (.fH 2 2)) (gf 19 21 (.gO 2 none 20)) (gf 19 22 (.len 21)) (a8 (gf 19 23 (.fH 2 3)) (gf 19 24 (.gO 3 none 23)) (gf 19 25 (.len 24)) (gf 19 26 (.fV .neq 22 25)) (bA 19 26) (aL 27) (dq 28 (.fH 3 2)) (gf 28 30 (.gO 2 none 29)) (ac (gf 28 31 (.len 30)) (gf 28 32 (.fH 3 3)) (gf 28 33 (.gO 3 none 32)) (gf 28 34 (.len 33)) (aD (gf 28 35 (.fV .neq 31 34)) (bA 28 35)))))) (cj 36 4)) (dd 5 0 41 37 5 (dB 38 2) (dw 38) (aO 39) (bQ 37 40) 1 (aj [dB 44 2,dw 44,di 46,aF 47 5 45,bB 5 47,f 49 2 3,au 3 49,di 51,aF 52 5 50,bB 5 52,o 54 (.gE (.binOp .neq 146 48 53 146) 4)] (cj 54 4)) 42 43 5) (S (dd 6 2 59 55 6 (dB 56 3) (dw 56) (aO 57) (bQ 55 58) 3 (aj [dB 62 3,dw 62,dW 64,aF 65 3 63,bB 3 65,f 67 3 3,au 3 67,dW 69,aF 70 3 68,bB 3 70,o 72 (.gE (.binOp .neq 33 66 71 33) 4)] (cj 72 4)) 60 61 6) (dM (m1 4))))
def r43:List Ze:=[(.aW 4)]
def c43:aU Tryz.prog 12 2 n43 r43:=fN [(2,2),(3,3),(7,2),(9,3),(13,2),(15,3),(20,2),(23,3),(29,2),(32,3),(38,2),(44,2),(49,3),(56,2),(62,2),(67,3)] Tryz.func12
def I9:Zc:=de 5 (.eE 5 [5,24,34] 0) (o 7 (.eE 7 [7] 2)) (o 8 (.eE 8 [8] 3)) (m0 10) [] (S (eK 17 7 2 (aN 18 8 2) 80 17 (o 20 (.not 19)) [] (cj 20 10)) (cS 21 1 (o 22 (.gE (.convert 5 3 21) 3)) 23 (.gE (.binOp .quo 3 22 (k 16) 3) 3) (f 24 3 5) (dC (au 5 24) (aO 25) (o 27 (.gE (.binOp .rem 3 23 26 3) 3)) (o 28 (.fJ 3 1 [z0] [(0,(1,27))])) 11 28) (S (an 29 11 (o 30 (.gC 1 29 (k 0))) (aJ 30) (eD 31) (am 12 32) (bM 0 37 33 12 (f 34 3 5) (au 5 34) (aO 35) (bQ 33 36) 1 (bm 40 1 12 (o 42 (.gE (.binOp .shr 5 40 41 3) 5)) (o 43 (.gE (.binOp .and 5 42 (yP 1) 5) 5)) (bL 44 (.fV .eql 43 (yP 1))) (bF 44 (az 45 11 (dE 46) (o 47 (.fJ 3 1 [z0] [(0,(1,46))])) (o 48 (.raw (.call (.mk (.builtin .append) #[45,47] #[45,45])) 45)) (am 11 48)))) 38 39 12)) (aj [aN 50 5 5,db 51,aN 52 7 2,o 13 (.eC 13 [13] [z0,z0,z0,s0,s0]),(o 53 (.call 82 [52,(k 0),(k 80)]),(some false)),o 54 (.build [s0,z0,z0] [(0,(1,51)),(1,(2,53))]),(bC 81 50 54,(some false)),m 49 55,dg 56 49,dh 57 49,fB 13 56,m 14 57] (aj [aN 59 5 5,db 60,aN 61 8 2,o 15 (.eC 15 [15] [z0,z0,z0,s0,s0]),(o 62 (.call 82 [61,(k 0),(k 80)]),(some false)),o 63 (.build [s0,z0,z0] [(0,(1,60)),(1,(2,62))]),(bC 81 59 63,(some false)),m 58 64,dg 65 58,dh 66 58,fB 15 65,m 16 66] (aV 67 5 5 (aN 68 13 5) (aN 69 15 5) (m 70 14) (az 71 16 (fx 72) (bR 73) (o 74 (.call 83 [67,68,69,70,71,72,73])) (am 10 74)) .ret))))))
def Ey:List Ze:=[(.aW 10)]
def Cb:aU Tryz.prog 17 5 I9 Ey:=fN [(5,5),(7,7),(8,8),(13,13),(15,15),(24,5),(34,5)] Tryz.func17
def JX:Zc:=dA 2 (.eE 2 [2,8,14] 0) 4 (S (dd 5 0 11 7 5 (dB 8 3) (dw 8) (aO 9) (bQ 7 10) 1 (dX 14 3 2 (di 16) (aF 17 3 15) (eG (bB 3 17) (o 6 (.eC 6 [6,20,24,25,27,28] [z0,z0,z0])) (bo 6 3 18)) (aj [bR 19,fw 20 6,au 6 20,eh 1 19 21,aJ 22,f 24 1 6,cu 0 24,au 6 25,f 27 1 6,cu 1 27,au 6 28,eI 71 23 26 29,o 31 (.not 30)] (cj 31 4))) 12 13 5) (dM (m1 4)))
def Ej:List Ze:=[(.aW 4)]
def Bm:aU Tryz.prog 47 2 JX Ej:=fN [(2,2),(6,6),(8,2),(14,2),(20,6),(24,6),(25,6),(27,6),(28,6)] Tryz.func47
def II:Zc:=aG 2 (.eE 2 [2,7,8,15,16] 0) (o 3 (.eE 3 [3,19,20,25,26,32,33] 1)) (bL 4 (.eC 4 [4] [z0,z0,z0,z0])) (eQ 5 (.eC 5 [5,23,30,36] [z0,z0,z0,z0]) (S (dS 7 0 2 2 7 (dw 8) (aO 9) (dy 11) (cX 0 12 12 11 10 1 (cO 13 11 6 (aj [dW 14,dB 15 0,cu 0 15,dw 16,dW 18,fw 19 3,o 20 (.hO 1 4 19 18),au 3 20,ay .sub 17 21,o 23 (.hO 1 4 5 14),ls 5 1 23 22] (an 24 6 (f 25 4 3) (cu 0 25) (au 3 26) (ag (ay .geq 24 27)) (aE 28 (.drawn [dW 29,o 30 (.hO 1 4 5 29),au 5 30,f 32 4 3,cu 1 32,au 3 33,eu 31 34,o 36 (.hO 1 4 5 29),ls 5 1 36 35]))))) 37 11 1 11 37)) (cq 38 5 4 (bo 4 4 38) [] .ret)))
def Dz:List Ze:=[(.kS 4 4 (some 4))]
def Dg:aU Tryz.prog 77 2 II Dz:=fN [(2,2),(3,3),(4,4),(5,5),(7,2),(8,2),(15,2),(16,2),(19,3),(20,3),(23,5),(25,3),(26,3),(30,5),(32,3),(33,3),(36,5)] Tryz.func77
def JQ:Zc:=bn 1 (.raw (.box 151 0) 0) (o 2 (.raw (.alloc 4) 0)) (S (af (lm 3 4 1) (du (.raw (.makeFunc (.func 155) #[3] #[]) 283)) [] (B 0 (.nZ 4 [5] .skip (B 1 (sq [u (.raw (.store 4 2 k1) 0)] .ret))))) (dM (u (.raw (.store 4 2 k0) 0))))
def Ed:List Ze:=[(.mem 2 none)]
def Dk:aU Tryz.prog 152 1 JQ Ed:=fN [] Tryz.func152
def n95:Zc:=eQ 2 (.eE 2 [2,11,12,18,19,23,24] 0) (S (cS 6 1 (eF 7) 8 (.raw (.call (.mk (.value 6) #[7] #[105])) 4) (o 9 (.not 8)) [] (aE 9 .ret)) (aB 4 1 (bM 0 15 10 4 (dB 11 0) (cu 2 11) (dw 12) (aD (aO 13) (ba 10 14)) 1 (S .skip (dS 18 0 2 1 18 (dw 19) (o 21 (.raw (.unOp .neg 3 20) 3)) (am 5 21) (bM 2 26 22 5 (dB 23 0) (cu 1 23) (dw 24) (ag (ay .leq 22 25)) 3 (S (bx 29 5 .eql 29 0 (aE 30 (.exit 3))) (bm 31 1 4 (di 33) (o 34 (.build [z0,z0] [(0,(1,32)),(1,(1,33))])) (aD (o 35 (.raw (.call (.mk (.value 31) #[34] #[105])) 4)) (o 36 (.not 35))) (aE 36 .ret))) 27 28 5))) 16 17 4)))
def r95:List Ze:=[]
def c95:aU Tryz.prog 222 2 n95 r95:=fN [(2,2),(11,2),(12,2),(18,2),(19,2),(23,2),(24,2)] Tryz.func222
def n48:Zc:=dA 1 (.eE 1 [1] 0) 2 (fa 3 1 4 43 3 (o 5 (.not 4)) (aL 5) (dC (gt 6 7 (.gO 1 (some 4) 1)) (gt 6 8 (.call 14 [7])) (gt 6 9 (.fV .eql 8 (k 0))) (bw 6 9) 2 10) .ret)
def r48:List Ze:=[(.aW 2)]
def c48:aU Tryz.prog 8 1 n48 r48:=fN [(1,1)] Tryz.func8
def n51:Zc:=aG 2 (.eE 2 [2,8] 0) (dI 3) (bL 4 (.eC 4 [4] [z0,z0,s0,s0])) (cq 6 2 4 (o 5 (.eC 5 [5,14] [z0,z0,s0,s0])) (ag (bo 5 4 6)) (aj [dB 8 3,dw 8,aN 11 3 3,u (.build [z0,z0,z0] [(0,(3,11))]),(o 7 (.raw (.buildSlice 27 0 #[]) 27),(some false)),u (.build [z0,z0,z0] [(0,(3,11))]),(eR (.raw (.call (.mk (.builtin .append) #[7,9] #[27,27])) 27),(some false)),(o 12 (.fJ 33 1 [z0,z0,z0] [(0,(3,11))]),(some false)),(o 13 (.raw (.call (.mk (.builtin .append) #[10,12] #[27,27])) 27),none),f 14 3 5,ls 5 1 14 13] (cq 15 5 4 (bo 4 4 15) [] .ret)))
def r51:List Ze:=[(.kS 4 4 (some 4))]
def c51:aU Tryz.prog 13 2 n51 r51:=fN [(2,2),(3,3),(4,4),(5,5),(8,2),(14,5)] Tryz.func13
def n17:Zc:=dA 1 (.eE 1 [1,3,8] 0) 2 (dY 3 2 1 4 (dx 5 20) (fh 6 (dq 7 (.fH 3 1)) (gf 7 9 (.gO 1 none 8)) (gf 7 10 (.len 9)) (aY (gf 7 11 (.fV .gtr 10 (k 20))) (bA 7 11) 2 12)) .ret)
def r17:List Ze:=[(.aW 2)]
def c17:aU Tryz.prog 43 1 n17 r17:=fN [(1,1),(3,1),(8,1)] Tryz.func43
def n78:Zc:=bZ 1 (.eE 1 [1] 0) 2 (S (bZ 6 (.ld (some 3) (.global 0)) 7 (cf 0 8 (fu 7 3) 1 (bn 9 (.raw (.index 280 6 7) 279) (dP 4) (cS 10 4 (aN 11 1 4) 12 (.build [z0,z0,s0,s0] [(0,(4,11))]) (o 13 (.raw (.call (.mk (.value 10) #[12] #[151])) 39)) (am 5 13) (fj 14 5 (aI (di 16) 2 16)))) 17 7 1 7 17)) (cB 2))
def r78:List Ze:=[(.aW 2)]
def c78:aU Tryz.prog 68 1 n78 r78:=fN [(1,1)] Tryz.func68
def JN:Zc:=dA 2 (.eE 2 [2,6] 0) 4 (fC 5 1 (dB 6 2) (dw 6) (aO 7) (aY (cZ 8) (eR (.call 71 [5,(k 0),9])) 4 10))
def Ea:List Ze:=[(.aW 4)]
def Dh:aU Tryz.prog 73 2 JN Ea:=fN [(2,2),(6,2)] Tryz.func73
def JV:Zc:=dJ 2 (S (aZ 3 0 (du (.gE (.binOp .eql 26 3 (.const s0) 26) 4)) (bz 4 (al 2))) (de 5 (.raw (.buildSlice 26 0 #[]) 26) (bg 6) (o 7 (.raw (.call (.mk (.builtin .append) #[5,6] #[26,26])) 26)) (eJ 2) [] .ret))
def Eh:List Ze:=[(.aW 2)]
def Bj:aU Tryz.prog 153 1 JV Eh:=fN [] Tryz.func153
def JW:Zc:=aG 2 (.eE 2 [2,9,10] 0) (dI 3) (ag (m0 4)) (eK 6 2 4 (aN 7 3 6) 77 6 (o 5 (.raw (.alloc 160) 0)) (ag (cJ 160 5 8)) (dS 9 0 2 3 9 (dw 10) (o 12 (.raw (.makeFunc (.func 299) #[] #[5]) 407)) (aY (cy 298 11) (o 14 (.not 13)) 4 14) .ret))
def Ei:List Ze:=[(.aW 4)]
def Bl:aU Tryz.prog 223 2 JW Ei:=fN [(2,2),(3,3),(9,2),(10,2)] Tryz.func223
def I4:Zc:=bZ 1 (.eE 1 [1,3,4,9,10] 0) 2 (S (dS 3 0 1 0 3 (dN 4) (o 6 (.call 156 [5,(k 0),(k 99)])) (fA (o 7 (.not 6)) (aL 7) (dq 8 (.fH 0 1)) (gf 8 10 (.fH 1 9)) 8 11 (.gO 1 none 10) (gf 8 12 (.call 156 [11,(k 0),(k 3)])) (gf 8 13 (.not 12)) (bA 8 13) []) (eS 14 1)) (cB 2))
def Es:List Ze:=[(.aW 2)]
def Bu:aU Tryz.prog 391 1 I4 Es:=fN [(1,1),(3,1),(4,1),(9,1),(10,1)] Tryz.func391
def n88:Zc:=bn 1 (.eE 1 [1] 0) (al 2) (dJ 3 (cq 9 1 4 (bp 44 9) (am 4 10) (de 11 (.build [z0,z0] []) (o 12 (.fJ 105 1 [z0,z0] [(0,(2,11))])) (aN 13 1 4) (bp 45 13) (aI (o 15 (.raw (.call (.mk (.builtin .append) #[12,14] #[103,103])) 103)) 5 15) (S (dd 6 0 19 16 6 (fx 17) (aO 17) (ba 16 18) [] 1 (dd 7 2 25 22 7 (di 23) (aO 23) (ba 22 24) [] 3 (aj [aN 28 1 4,fx 29,dW 30,cH 31 29,aJ 31,di 33,eJ 34,aF 35 2 33,bB 2 35,eI 46 28 32 36,m 8 37] (cq 38 1 4 (fc 39) (ag (cy 47 38)) (aE 40 (.drawn [dm 41,fx 42,dW 43,cH 44 42,aJ 44,di 46,eJ 47,aF 48 2 46,bB 2 48,fc 50,o 51 (.build [s0,z0,z0,s0] [(0,(1,45)),(1,(2,49)),(3,(1,50))]),(o 52 (.fJ 110 1 [s0,z0,z0,s0] [(0,(4,51))]),(some false)),(o 53 (.raw (.call (.mk (.builtin .append) #[41,52] #[36,36])) 36),none),m 3 53])))) 26 27 7) 20 21 6) (eH 54 3 2)))))
def r88:List Ze:=[(.aW 2)]
def c88:aU Tryz.prog 9 1 n88 r88:=fN [(1,1)] Tryz.func9
def n64:Zc:=bZ 1 (.eE 1 [1,6,11,16,22,28,59,64,71,79] 0) 2 (aK (dX 6 0 1 (o 8 (.call 71 [7,(k 0),(k 99)])) (o 9 (.not 8)) (fh 9 (dq 10 (.fH 1 1)) (gf 10 12 (.gO 1 none 11)) (gf 10 13 (.call 71 [12,(k 0),(k 3)])) (aD (gf 10 14 (.not 13)) (bA 10 14))) (eS 15 1)) (dY 16 2 1 17 (o 19 (.call 71 [18,(k 2),(k 4)])) (bL 20 (.not 19)) (eS 20 2)) (aK (dd 3 0 25 21 3 (eZ 22 2) (dN 22) (aO 23) (bQ 21 24) 1 (dX 28 2 1 (dm 30) (aF 31 5 29) (eG (bB 5 31) (du (.eC 4 [4,33,38,39,41,42,48,54] [z0,z0,z0,z0,z0])) (fB 4 32)) (aX 33 0 4 (l 34 4 2 33) (o 35 (.call 72 [34,(k 0),(k 99)])) (o 36 (.not 35)) (fh 36 (dq 37 (.fH 0 4)) (gf 37 39 (.fH 1 38)) (gf 37 40 (.gO 4 none 39)) (fA (gf 37 41 (.fH 0 4)) (gf 37 42 (.fH 0 41)) (gf 37 43 (.gO 4 none 42)) (gf 37 44 (.fV .sub 40 43)) 37 45 (.fV .geq 44 (k 3)) (bA 37 45) (aL 46) (dq 47 (.fH 2 4)) (ac (gf 47 49 (.gO 4 (some 2) 48)) (gf 47 50 (.call 72 [49,(k 0),(k 199)])) (gf 47 51 (.not 50)) (bA 47 51) (fh 52 (dq 53 (.fH 4 4)) (gf 53 55 (.gO 4 none 54)) (gf 53 56 (.call 71 [55,(k 0),(k 199)])) (aD (gf 53 57 (.not 56)) (bA 53 57)))))) (eS 58 1))) 26 27 3) (dY 59 3 1 60 (dx 61 3) [] (eS 62 2)) (S (dd 5 2 67 63 5 (eZ 64 3) (dN 64) (aO 65) (bQ 63 66) 3 (ez [aN 70 1 4,eZ 71 3,dN 71,di 73,aF 74 3 72,o 75 (.fE 0 74),aJ 75,bC 73 70 76,o 78 (.not 77)] (eS 78 6) (dX 79 3 1 (di 81) (aF 82 3 80) (ce (o 83 (.fE 1 82)) (bB 2 83) (o 85 (.call 72 [84,(.const (.int .i64 (Int.negSucc 198))),(k 199)])) (o 86 (.not 85))) (eS 86 1))) 68 69 5) (cB 2))))
def r64:List Ze:=[(.aW 2)]
def c64:aU Tryz.prog 14 1 n64 r64:=fN [(1,1),(4,4),(6,1),(11,1),(16,1),(22,1),(28,1),(33,4),(38,4),(39,4),(41,4),(42,4),(48,4),(54,4),(59,1),(64,1),(71,1),(79,1)] Tryz.func14
def IY:Zc:=bn 1 (.eE 1 [1,10,22,30] 0) (al 2) (eO 8 (fc 3) (S (dd 4 0 13 9 4 (eZ 10 2) (dN 10) (aO 11) (bQ 9 12) 1 (dJ 5 (S (dd 6 2 19 16 6 (dm 17) (aO 17) (ba 16 18) [] 3 (dX 22 2 1 (fx 24) (aF 25 5 23) (cm (o 26 (.fE 0 25)) (o 27 (.fE 0 26)) (aJ 27) 7 28) (bM 4 37 29 7 (eZ 30 2) (dN 30) (fx 32) (ac (aF 33 5 31) (o 34 (.fE 0 33)) (o 35 (.fE 1 34)) (aJ 35) (ag (ay .leq 29 36))) 5 (dk 40 5 (ff 41) (dm 42) (dW 43) (a8 (cH 44 42) (aJ 44) (o 46 (.raw (.call (.mk (.builtin .append) #[41,45] #[45,45])) 45)) (eJ 47) (o 48 (.fJ 3 1 [z0] [(0,(1,47))])) (o 49 (.raw (.call (.mk (.builtin .append) #[46,48] #[45,45])) 45)) (o 50 (.fJ 45 1 [s0] [(0,(1,49))])) (o 51 (.raw (.call (.mk (.builtin .append) #[40,50] #[57,57])) 57)) (am 5 51))) 38 39 7)) 20 21 6) (.fK (aI (di 52) 3 52)))) 14 15 4) (eH 53 3 2)))
def El:List Ze:=[(.aW 2)]
def Bn:aU Tryz.prog 44 1 IY El:=fN [(1,1),(10,1),(22,1),(30,1)] Tryz.func44
def JR:Zc:=dJ 2 (S (aZ 3 0 (du (.gE (.binOp .eql 27 3 (.const s0) 27) 4)) (bz 4 (al 2))) (de 5 (.raw (.buildSlice 27 0 #[]) 27) (bg 6) (o 7 (.raw (.call (.mk (.builtin .append) #[5,6] #[27,27])) 27)) (eJ 2) [] .ret))
def Ee:List Ze:=[(.aW 2)]
def Dl:aU Tryz.prog 69 1 JR Ee:=fN [] Tryz.func69
def n89:Zc:=aG 2 (.eE 2 [2] 0) (du (.eC 4 [4] [z0,z0,s0,s0,s0])) (dy 5) (S (cq 8 2 4 (bp 68 8) (am 6 9) (fj 10 6 (ec (o 12 (.build [z0,z0,s0,s0,s0] [])) (dW 13) 4 5 12 5 13))) (aV 14 2 4 (o 15 (.build [z0,z0,s0,s0] [(0,(4,14))])) (o 16 (.build [z0,z0,s0,s0,s0] [(0,(4,15))])) (o 7 (.eC 7 [7,18,23,27,28] [z0,z0,s0,s0,s0])) (ag (fB 7 16)) (aK (an 17 1 (fw 18 7) (l 19 7 4 18) (o 20 (.raw (.call (.mk (.value 17) #[19] #[151])) 4)) (bL 21 (.not 20)) (cr 21 (aa (o 22 (.build [z0,z0,s0,s0,s0] [])) (fB 4 22) (ah 5 6)))) (aX 23 0 7 (l 24 7 4 23) (o 25 (.raw (.makeFunc (.func 155) #[24] #[]) 283)) (bp 154 25) (aD (f 27 4 7) (ls 7 1 27 26)) (dY 28 4 7 29 (ax .eql 30 0) [] (cr 31 (aa (o 32 (.build [z0,z0,s0,s0,s0] [])) (fB 4 32) (ah 5 9))))) (cq 33 7 5 (fB 4 33) (dy 5) .ret))))
def r89:List Ze:=[(.kS 4 4 (some 5)),(.aW 5)]
def c89:aU Tryz.prog 74 2 n89 r89:=fN [(2,2),(4,4),(7,7),(18,7),(23,7),(27,7),(28,7)] Tryz.func74
def IZ:Zc:=dJ 2 (eV 3 0 (du (.call 220 [(.const s0),3])) 2 .ret)
def Em:List Ze:=[(.aW 2)]
def Bo:aU Tryz.prog 154 1 IZ Em:=fN [] Tryz.func154
def I0:Zc:=cz 4 (bm 5 0 1 (cy 348 5) (ax .geq 7 0) (am 4 8) .ret)
def En:List Ze:=[(.aW 4)]
def Bq:aU Tryz.prog 298 2 I0 En:=fN [] Tryz.func298
def I5:Zc:=bZ 1 (.eE 1 [1,5,6,11,12] 0) 2 (aK (dS 5 0 1 2 5 (dN 6) (aO 7) (aD (o 9 (.call 156 [8,(k 2),(k 4)])) (eR (.not 9))) (eS 10 2)) (dS 11 0 1 2 11 (dN 12) (aO 13) (dy 15) (cX 0 16 16 15 14 1 (ae (ia 17 5 13 15) (bB 5 17) (du (.eC 4 [4,19,24,25,27,28,34,40] [z0,z0,z0,z0,z0])) (fB 4 18) [] (aX 19 0 4 (l 20 4 2 19) (o 21 (.call 394 [20,(k 0),(k 99)])) (o 22 (.not 21)) (fh 22 (dq 23 (.fH 0 4)) (gf 23 25 (.fH 1 24)) (gf 23 26 (.gO 4 none 25)) (fA (gf 23 27 (.fH 0 4)) (gf 23 28 (.fH 0 27)) (gf 23 29 (.gO 4 none 28)) (gf 23 30 (.fV .sub 26 29)) 23 31 (.fV .geq 30 (k 3)) (bA 23 31) (aL 32) (dq 33 (.fH 2 4)) (ac (gf 33 35 (.gO 4 (some 2) 34)) (gf 33 36 (.call 394 [35,(k 0),(k 199)])) (gf 33 37 (.not 36)) (bA 33 37) (fh 38 (dq 39 (.fH 4 4)) (gf 39 41 (.gO 4 none 40)) (gf 39 42 (.call 156 [41,(k 0),(k 199)])) (aD (gf 39 43 (.not 42)) (bA 39 43)))))) (eS 44 1))) 45 15 1 15 45)) (cB 2))
def Et:List Ze:=[(.aW 2)]
def Bv:aU Tryz.prog 392 1 I5 Et:=fN [(1,1),(4,4),(5,1),(6,1),(11,1),(12,1),(19,4),(24,4),(25,4),(27,4),(28,4),(34,4),(40,4)] Tryz.func392
def n29:Zc:=de 2 (.eE 2 [2] 0) (o 3 (.raw (.box 3 1) 0)) (al 4) (bY 5) [] (eK 12 2 4 (o 13 (.raw (.makeFunc (.func 75) #[] #[3]) 158)) 74 12 (m 11 14) (dC (dg 15 11) (dh 16 11) (o 6 (.eC 6 [6,20,28] [z0,z0,s0,s0,s0])) (fB 6 15) 7 16) (S (fj 17 7 (cG 19 7 (al 4) 5 19)) (dJ 8 (S (dY 20 4 6 21 (bY 23) [] (cX 0 24 24 23 22 1 (ae (ia 25 6 21 23) (bB 6 25) (eR (.eC 10 [10] [z0,z0,z0,z0,z0,z0])) (bo 10 6 26) [] (.drawn [fc 27,fw 28 6,l 29 6 4 28,aN 30 10 6,ld 32 3,(cy 77 29,(some true)),(o 33 (.raw (.index 160 31 32) 3),(some false)),(o 34 (.fJ 3 1 [z0] [(0,(1,33))]),(some false)),(o 35 (.raw (.call (.mk (.builtin .append) #[27,34] #[45,45])) 45),none),m 8 35])) 36 23 1 23 36)) (aZ 37 8 (bp 78 37) (fC 39 8 (bp 79 39) (m 4 40) (bY 5) []))))))
def r29:List Ze:=[(.aW 4),(.aW 5)]
def c29:aU Tryz.prog 15 2 n29 r29:=fN [(2,2),(6,6),(10,10),(20,6),(28,6)] Tryz.func15
def n56:Zc:=bn 1 (.eE 1 [1,7,13,17] 0) (al 2) (dJ 3 (S (aB 4 1 (bM 0 10 6 4 (eZ 7 2) (dN 7) (aO 8) (bQ 6 9) 1 (dX 13 1 1 (o 15 (.raw (.unOp .neg 3 14) 3)) (m 5 15) [] (bM 2 19 16 5 (eZ 17 1) (dN 17) (ay .leq 16 18) [] 3 (bO 22 5 22 0 (bF 23 (az 24 3 (fx 25) (di 26) (o 27 (.build [z0,z0] [(0,(1,25)),(1,(1,26))])) (aY (o 28 (.fJ 105 1 [z0,z0] [(0,(2,27))])) (o 29 (.raw (.call (.mk (.builtin .append) #[24,28] #[103,103])) 103)) 3 29)))) 20 21 5)) 11 12 4)) (eH 30 3 2)))
def r56:List Ze:=[(.aW 2)]
def c56:aU Tryz.prog 45 1 n56 r56:=fN [(1,1),(7,1),(13,1),(17,1)] Tryz.func45
def JS:Zc:=aG 1 (.eE 1 [1,16,19,22,23] 0) (o 2 (.eC 2 [2] [z0,z0,s0,s0])) (dy 3) (aK (cq 5 1 4 (bp 68 5) (am 4 6) (fj 7 4 (ec (o 9 (.build [z0,z0,s0,s0] [])) (fx 10) 2 4 9 3 10))) (aV 11 1 4 (o 12 (.build [z0,z0,s0,s0] [(0,(4,11))])) (bp 152 12) (o 14 (.not 13)) [] (cr 14 (aa (o 15 (.build [z0,z0,s0,s0] [])) (bo 2 4 15) (ah 3 9)))) (aj [eZ 16 2,dN 16,eZ 19 3,dN 19,(bp 153 17,(some false)),eZ 22 2,(bp 69 20,(some false)),ls 1 1 22 18,eZ 23 3,ls 1 1 23 21] (cq 24 1 4 (bo 2 4 24) (dy 3) .ret)))
def Ef:List Ze:=[(.kS 2 2 (some 4)),(.aW 3)]
def Dm:aU Tryz.prog 70 1 JS Ef:=fN [(1,1),(2,2),(16,1),(19,1),(22,1),(23,1)] Tryz.func70
def n98:Zc:=dA 2 (.eE 2 [2] 0) 3 (eK 4 2 4 (ld 5 1) 76 4 (dW 3) [] .ret)
def r98:List Ze:=[(.aW 3)]
def c98:aU Tryz.prog 75 2 n98 r98:=fN [(2,2)] Tryz.func75
def n87:Zc:=bn 2 (.raw (.box 151 0) 0) (o 3 (.raw (.box 349 1) 0)) (aC (du (.raw (.alloc 350) 0)) (bn 5 (.raw (.makeFunc (.func 221) #[] #[2,4,3]) 350) (cJ 350 4 5) (.fK (aa (ld 6 4) (eX 7) (bL 8 (.raw (.call (.mk (.value 6) #[7,(k 0)] #[160,3])) 4))))))
def r87:List Ze:=[]
def c87:aU Tryz.prog 155 2 n87 r87:=fN [] Tryz.func155
def I2:Zc:=bn 2 (.raw (.box 152 0) 0) (al 4) (S (sq (am 6 1) (B 0 (.nZ 6 [7] (.fK [o 5 (.raw (.alloc 162) 0),st 162 5 7 0]) (B 1 (.fK [ld 8 2,lm 9 6 5,o 10 (.fJ 162 1 [z0,z0,z0,z0,z0,z0] [(0,(6,9))]),o 11 (.raw (.call (.mk (.builtin .append) #[8,10] #[152,152])) 152),st 152 2 11 0]))))) (af (ld 12 2) (dE 4) [] .ret))
def Ep:List Ze:=[(.aW 4)]
def Bs:aU Tryz.prog 220 2 I2 Ep:=fN [] Tryz.func220
def I1:Zc:=dA 2 (.eE 2 [2,4,8,9,11,12] 0) 3 (aj [dB 4 0,dw 4,dB 8 1,cu 0 8,dw 9,dB 11 1,cu 1 11,dw 12,(o 6 (.raw (.indexAddr 160 1 5) 0),(some false)),aJ 6,eI 156 7 10 13,o 15 (.not 14),m 3 15] .ret)
def Eo:List Ze:=[(.aW 3)]
def Br:aU Tryz.prog 299 2 I1 Eo:=fN [(2,2),(4,2),(8,2),(9,2),(11,2),(12,2)] Tryz.func299
def I3:Zc:=bJ 4 (dO 6 0 (aO 6) (dy 8) (cX 0 9 9 8 7 1 (cO 10 8 5 (bm 11 1 0 (di 13) (aF 14 3 12) (aD (bB 3 14) (o 16 (.raw (.call (.mk (.value 11) #[15] #[33])) 4))) (cr 16 (aI (di 17) 4 17)))) 18 8 1 8 18) (dM (aP 4)))
def Er:List Ze:=[(.aW 4)]
def Bt:aU Tryz.prog 348 2 I3 Er:=fN [] Tryz.func348
def I6:Zc:=bZ 1 (.eE 1 [1,5,6,10,11] 0) 2 (aK (dS 5 0 1 3 5 (dN 6) (aO 7) (ag (dx 8 3)) (eS 9 2)) (dS 10 0 1 3 10 (dN 11) (aO 12) (dy 14) (cX 0 15 15 14 13 1 (ae (ia 16 3 12 14) (bB 3 16) (du (.eC 4 [4,20,25] [z0,z0,z0])) (bo 4 3 17) [] (B 2 (aV 19 1 4 (fw 20 4) (au 4 20) (bC 76 19 21) (aI (o 23 (.not 22)) 18 23) (N 18 (aB 2 6 .ret) (aX 25 1 4 (l 26 4 2 25) (o 27 (.call 394 [26,(.const (.int .i64 (Int.negSucc 198))),(k 199)])) (o 28 (.not 27)) (am 24 28) (eS 24 1)))))) 29 14 1 14 29)) (cB 2))
def Eu:List Ze:=[(.aW 2)]
def Bw:aU Tryz.prog 393 1 I6 Eu:=fN [(1,1),(4,4),(5,1),(6,1),(10,1),(11,1),(20,4),(25,4)] Tryz.func393
def n41:Zc:=de 2 (.eE 2 [2,13,19] 0) (dI 3) (du (.eC 4 [4] [z0,z0,s0,s0])) (bY 5) [] (S (cq 7 2 4 (bp 68 7) (am 6 8) (fj 9 6 (ec (o 11 (.build [z0,z0,s0,s0] [])) (dW 12) 4 4 11 5 12))) (aj [dB 13 3,dw 13,aN 16 3 3,u (.build [z0,z0,z0] [(0,(3,16))]),(bp 69 14,(some false)),(o 17 (.fJ 33 1 [z0,z0,z0] [(0,(3,16))]),(some false)),(o 18 (.raw (.call (.mk (.builtin .append) #[15,17] #[27,27])) 27),none),dB 19 3,ls 2 1 19 18] (fa 20 2 4 70 20 (dg 22 21) (dh 23 21) (aI (bo 4 4 22) 5 23) .ret)))
def r41:List Ze:=[(.kS 4 4 (some 4)),(.aW 5)]
def c41:aU Tryz.prog 11 2 n41 r41:=fN [(2,2),(3,3),(4,4),(13,2),(19,2)] Tryz.func11
def I8:Zc:=dA 2 (.eC 2 [2] [z0,z0]) 3 (dO 6 0 (aO 6) (ag (ax .eql 7 0)) (cr 8 (eG (eF 9) (bo 2 2 9) (m0 3))) (an 10 0 (o 11 (.gC 1 10 (k 0))) (aJ 11) (bp 62 12) (aD (du (.eC 4 [4,20,27] [z0,z0])) (bo 4 2 13)) (S (aB 5 1 (bM 0 17 14 5 (bg 15) (aO 15) (ba 14 16) [] 1 (.drawn [fw 20 4,au 4 20,bg 22,di 23,cH 24 22,aJ 24,(o 26 (.gE (.call (.mk (.builtin .min) #[21,25] #[3,3])) 3),none),f 27 1 4,au 4 27,bg 29,di 30,cH 31 29,aJ 31,(o 33 (.gE (.call (.mk (.builtin .max) #[28,32] #[3,3])) 3),none),bC 67 26 33,bo 4 2 34]) 18 19 5)) (cq 35 4 2 (bo 2 2 35) (ag (m1 3)) .ret))))
def Ew:List Ze:=[(.kS 2 2 (some 2)),(.aW 3)]
def Ca:aU Tryz.prog 16 1 I8 Ew:=fN [(2,2),(4,4),(20,4),(27,4)] Tryz.func16
def n75:Zc:=aG 3 (.eE 3 [3,16] 0) (o 5 (.eE 5 [5,24,28] 2)) (ag (al 6)) (dJ 7 (S (dd 8 0 13 10 8 (bR 11) (aO 11) (ba 10 12) [] 1 (aj [fw 16 3,au 3 16,bR 18,fc 19,cH 20 18,aJ 20,ay .sub 17 21,m 9 22] (S (an 23 8 (fw 24 5) (au 5 24) (ay .geq 23 25) [] (bF 26 (az 27 9 (f 28 1 5) (au 5 28) (eu 27 29) (am 9 30)))) (dk 31 7 (dP 32) (o 33 (.fJ 3 1 [z0] [(0,(1,32))])) (o 34 (.raw (.call (.mk (.builtin .append) #[31,33] #[45,45])) 45)) (am 7 34)))) 14 15 8) (eH 35 7 6)))
def r75:List Ze:=[(.aW 6)]
def c75:aU Tryz.prog 46 3 n75 r75:=fN [(3,3),(5,5),(16,3),(24,5),(28,5)] Tryz.func46
def n99:Zc:=dA 2 (.eE 2 [2,6,7] 0) 4 (fC 5 1 (dB 6 0) (cu 2 6) (dw 7) (cm (aO 8) (cZ 9) (o 11 (.call 156 [5,(k 0),10])) 4 11))
def r99:List Ze:=[(.aW 4)]
def c99:aU Tryz.prog 76 2 n99 r99:=fN [(2,2),(6,2),(7,2)] Tryz.func76
def JO:Zc:=de 2 (.eE 2 [2,13,19] 0) (dI 3) (du (.eC 4 [4] [z0,z0,z0,s0,s0])) (bY 5) [] (S (cq 7 2 5 (bp 129 7) (am 6 8) (fj 9 6 (ec (bI 11) (dW 12) 4 5 11 5 12))) (aj [dB 13 4,dw 13,aN 16 3 3,u (.build [s0,z0,z0] [(0,(3,16))]),(bp 159 14,(some false)),(o 17 (.fJ 137 1 [s0,z0,z0] [(0,(3,16))]),(some false)),(o 18 (.raw (.call (.mk (.builtin .append) #[15,17] #[23,23])) 23),none),dB 19 4,ls 2 1 19 18] (fa 20 2 5 145 20 (dg 22 21) (dh 23 21) (aI (fB 4 22) 5 23) .ret)))
def Eb:List Ze:=[(.kS 4 4 (some 5)),(.aW 5)]
def Di:aU Tryz.prog 81 2 JO Eb:=fN [(2,2),(3,3),(4,4),(13,2),(19,2)] Tryz.func81
def JP:Zc:=cz 6 (bm 7 1 0 (eT 7) (aL 9) (dC (bX 10 0) (mt 10 12 2) (gt 10 13 (.fV .leq 11 12)) (bw 10 13) 6 14) .ret)
def Ec:List Ze:=[(.aW 6)]
def Dj:aU Tryz.prog 156 3 JP Ec:=fN [] Tryz.func156
def EZ:Zc:=bn 5 (.raw (.box 160 0) 0) (o 7 (.raw (.alloc 4) 0)) (aK (cS 11 1 (o 12 (.fE 0 2)) 13 (.fE 2 12) (aJ 13) (aD (aO 14) (ba 11 15)) (aE 16 (S (de 17 (.fE 0 2) (o 18 (.fE 2 17)) (aJ 18) (bR 20) (dC (aF 21 5 19) (o 22 (.fE 0 21)) (o 23 (.fE 0 22)) (aJ 23) 8 24) (bM 0 34 25 8 (o 26 (.fE 0 2)) (o 27 (.fE 2 26)) (aJ 27) (az 29 1 (aF 30 5 28) (o 31 (.fE 0 30)) (o 32 (.fE 1 31)) (aD (aJ 32) (ay .leq 25 33))) 1 (bm 37 1 8 (o 39 (.raw (.indexAddr 160 5 37) 0)) (cJ 3 39 38) [] (ae (ld 40 3) (lm 41 4 5) (bR 42) (eD 42) (aD (o 44 (.raw (.call (.mk (.value 40) #[41,43] #[160,3])) 4)) (o 45 (.not 44))) (bz 45 (u (.raw (.store 4 7 k0) 0))))) 35 36 8)) (dM (u (.raw (.store 4 7 k1) 0)))))) (af (lm 46 4 2) (o 47 (.raw (.makeFunc (.func 222) #[46] #[]) 351)) [] (B 2 (.nZ 47 [48] (.fK [o 9 (.raw (.alloc 105) 0),st 105 9 48 0]) (B 3 (sq [lm 49 4 5,lm 50 2 9,o 51 (.build [z0,z0,z0,z0,z0,z0] [(0,(4,49)),(4,(2,50))]),o 10 (.raw (.alloc 162) 0),st 162 10 51 0] (sq [lm 52 4 2,lm 53 6 10,c2 54 223 52 53,m 55 54,gt 55 56 (.ld none 4),gt 55 57 (.ld (some 6) 10),gt 55 58 (.raw (.call (.mk (.value 56) #[57] #[162])) 4),gt 55 59 (.not 58),pa 60 55 59] (cr 60 [u (.raw (.store 4 7 k0) 0)]))))))) (dM (u (.raw (.store 4 7 k1) 0))))
def Ek:List Ze:=[(.mem 7 none)]
def M6:aU Tryz.prog 221 5 EZ Ek:=fN [] Tryz.func221
def JU:Zc:=dA 3 (.eE 3 [3,8,12,14,19] 0) 6 (fC 7 1 (fw 8 3) (au 3 8) (ay .leq 7 9) (fh 10 (gt 11 12 (.fH 0 3)) (gt 11 13 (.gO 3 none 12)) (dZ 11 14) (a8 (gt 11 15 (.gO 3 none 14)) (gt 11 16 (.fV .leq 13 15)) (bw 11 16) (aL 17) (dZ 18 19) (gt 18 20 (.gO 3 none 19)) (mt 18 21 2) (gt 18 22 (.fV .leq 20 21)) (aI (bw 18 22) 6 23))))
def Eg:List Ze:=[(.aW 6)]
def Dn:aU Tryz.prog 394 3 JU Eg:=fN [(3,3),(8,3),(12,3),(14,3),(19,3)] Tryz.func394
end
section
variable{α:Type}{j:Nat}{H':Hp}
section
variable{P:fP}[Tz P]{H:Hp}
def lT(b:Bk):Int:=if(0<=b.op/\b.op<=99)/\(0<=b.sl/\b.sl<=3)then 0 else 1
def vI(p:zD):Bool:=decide (0<=p.ml/\p.ml<=p.mh/\p.mh<=99) && decide (p.mh-p.ml<3) && decide (0<=p.bl/\p.bl<=p.bh/\p.bh<=199) && decide (0<=p.w/\p.w<=199)
def lF(b:Bk):Int:=if ¬ (2<=b.fM.length/\b.fM.length<=4)then 2 else if b.fM.all vI then 0 else 1
def ER{f:α->Bool}{l:List α}(a:j<l.length):(l.take (j+1)).all f=((l.take j).all f && f l[j]):=by rw[BY a,qBO];simp only[List.all_cons,List.all_nil,Bool.and_true]
def EQ{f:α->Bool}{l:List α}(a:j<l.length)(h:f l[j]=false):l.all f=false:=by rw[qDq];exact⟨l[j],iN a,by simp[h]⟩
end
def x6(n:Nat):List nT->Int
 | []=>0
 | c :: l=>if ¬ (0<=c.p/\c.p<n)then 6 else if ¬ (-199<=c.gl/\c.gl<=c.gh/\c.gh<=199)then 1 else x6 n l
def nE(b:Bk):Int:=if 3<b.iE.length then 2 else x6 b.fM.length b.iE
def jY(b:Bk):Int:=if lT b≠0 then lT b else if lF b≠0 then lF b else nE b
def N4.RI(n:N4):List Int:=[n.a,n.b,n.c,n.d]
structure gJ where
 m:N4
 (bf gQ:Int)
def gJ.cells(x:gJ):List Value:=[vi x.m.a,vi x.m.b,vi x.m.c,vi x.m.d,vi x.bf,vi x.gQ]
def l8(x:gJ):Value:=.agg #[vi x.m.a,vi x.m.b,vi x.m.c,vi x.m.d,vi x.bf,vi x.gQ]
theorem Da(x:gJ)(a:j<4):x.cells[0+j * 1]? = some (vi (x.m.get j)):=by
 match j,a with
 | 0,_=>rfl
 | 1,_=>rfl
 | 2,_=>rfl
 | 3,_=>rfl
instance:Enc gJ:=⟨6,λx=>x.cells,λ_=>rfl⟩
def sY(b:Bk)(x:gJ)(i:Nat):Int:=b.op-x.m.get i+if x.bf<=i then x.gQ else 0
def iZ(b:Bk)(x:gJ):N4:=.of λi=>if i<b.fM.length then sY b x i else 0
def Sm(n:Int):Prop:=-100000<=n/\n<=100000
def N4.Sm(n:N4):Prop:=∀j,j<4->Proofs.Sm (n.get j)
structure CK(x:gJ):Prop where
 m:x.m.Sm
 gQ:Sm x.gQ
structure EN(b:Bk):Prop where
 op:Sm b.op
 le:b.fM.length<=4
def pH(b:Bk)(x:gJ)(j:Nat):N4:=.of λi=>if i<j then sY b x i else 0
def IX{b:Bk}{x:gJ}(_hj:j<4):(pH b x j).put j (sY b x j)=pH b x (j+1):=by
 refine N4.ext' λi a=>?_;rw[N4.iC _ _ a,pH,N4.o0 _ a,pH,N4.o0 _ a];by_cases e:i=j
 ·subst e;simp
 rw[iF e];by_cases h:i<j
 ·rw[qAa h,qAa O]
 rw[iF h,iF O]
section
variable{P:fP}[Tz P]{H:Hp}
structure Cn(b:Bk):Prop where
 bl:∀i (h:i<b.fM.length),Sm b.fM[i].bl
 bh:∀i (h:i<b.fM.length),Sm b.fM[i].bh
 w:∀i (h:i<b.fM.length),Sm b.fM[i].w
end
def iM.inc{H:Hp}{v:Value}{b:Bk}(h:iM H v b)(a:fI H H'):iM H' v b:=by obtain⟨k,c,e,f,i⟩:=h;exact⟨k,c,e,f.inc a,i.inc a⟩
def kB.J9{a l:List (List Value)}{I:Nat->Hp->Prop}{H:Hp}(h:I 0 H)(e:a=l):kB a I l H:=by subst e;exact .start h
structure jL where
 (bf gQ:Int)
def uL(k:jL):Value:=.agg #[vi k.bf,vi k.gQ]
instance:Enc jL:=⟨2,λk=>[vi k.bf,vi k.gQ],λ_=>rfl⟩
def iX(b:Int)(a:Nat):Nat->List jL
 | 0=>[]
 | r+1=>if(a:Int)-r=0 then iX b a r else⟨b,a-r⟩ :: iX b a r
def hY(n a:Nat):Nat->List jL
 | 0=>[]
 | r+1=>iX ((n:Int)-(r+1:Nat)) a (2 * a+1)++hY n a r
def iA(b:Bk):List jL:=⟨0,0⟩ :: hY b.fM.length b.sl.toNat (b.fM.length-1)
def qW(k:jL):List Value:=[uL k]
def JB{P:fP}{d:Option Nat}{next:fG->Hp->Prop}{σ:fG}{H:Hp}{x:Operand}{t b:TypeId}{n:Int}(e:σ.get x=some (vi n))(a:rY (-n))(h:next (σ.set d (vi (-n))) H):(fR.raw (.unOp .neg t x) b).m P d next σ H:=by refine YX (by simp[Op.operands,e]) (s:=Op.unary .neg (vi n)) (by simp[execOp,fL,e]) ?_;have:(0:Int)-n=-n:=O;simp only[Op.unary,Op.intArith,Zj,this,V8 a];exact h
def HS(l:List nT):((Zd l).all Value.gM)=true:=sU (λ_=>rfl) l
def Gf(l:List zD):((Zd l).all Value.gM)=true:=sU (λ_=>rfl) l
def rH(g:N4)(c:nT):Bool:=decide (c.gl<=g.get c.p.toNat/\g.get c.p.toNat<=c.gh)
def mJ(b:Bk)(x:gJ):Bool:=b.iE.all (rH (iZ b x))
def NC(b:Bk):Prop:=∀c∈b.iE,0<=c.p/\c.p<4
section
variable{P:fP}[Tz P]{H:Hp}{g:Bool}{d:Nat}
def yD(a b:nT):Bool:=decide (a.p=b.p/\a.gl=b.gl/\a.gh=b.gh)
def yE(a b:zD):Bool:=decide (a.ml=b.ml/\a.mh=b.mh/\a.bl=b.bl/\a.bh=b.bh/\a.w=b.w)
end
def JG.closed{G:Hp}{A:Hp->Prop}:Up (JG G A):=by rintro H J f ⟨a,F,rfl,b,c,e⟩;exact⟨a,F.join J,Hp.gV _ _ _,b.join_r f.gP,c.trans (Um F J),e⟩
def kU(f:Int->List gJ)(a:Int):Nat->List gJ
 | 0=>[]
 | c+1=>f (a-c)++kU f a c
def iH(b:Bk)(i:Nat):zD:=b.fM.getD i ⟨0,0,0,0,0⟩
def gN(b:Bk):Nat->N4->List gJ
 | 0,m=>((iA b).map λk=>(⟨m,k.bf,k.gQ⟩:gJ)).filter (mJ b)
 | r+1,m=>kU (λv=>gN b r (m.put (b.fM.length-(r+1)) v)) (iH b (b.fM.length-(r+1))).mh ((iH b (b.fM.length-(r+1))).mh-(iH b (b.fM.length-(r+1))).ml+1).toNat
def gT(b:Bk):List gJ:=gN b b.fM.length ⟨0,0,0,0⟩
def oE(x:gJ):List Value:=[l8 x]
structure BO(b:Bk):Prop where
 bk:EN b
 fM:Cn b
 iE:NC b
 ckl:b.iE.length<=1000000
 FJ:2<=b.fM.length
 Qg:0<=b.sl
 mD:b.sl<=3
 wide:∀i (h:i<b.fM.length),b.fM[i].mh-b.fM[i].ml<3
 ml:∀i (h:i<b.fM.length),Sm b.fM[i].ml
 mh:∀i (h:i<b.fM.length),Sm b.fM[i].mh
def EV{c:Int}{a:Nat}(b:a<=1000):∀r,r<=2 * a+1->∀k∈iX c a r,Sm k.gQ
 | 0,_,k,h=>by simp[iX]at h
 | r+1,e,k,h=>by
  rw[iX]at h;split at h
  ·exact EV b r O k h
  rcases qAi.1 h with rfl | h
  ·exact⟨by show -100000<=(a:Int)-r;omega,by show(a:Int)-r<=100000;omega⟩
  exact EV b r O k h
def JE{n b:Nat}(a:b<=1000):∀r,∀k∈hY n b r,Sm k.gQ
 | 0,k,h=>by simp[hY]at h
 | r+1,k,h=>by
  rw[hY]at h;rcases qAj.1 h with h | h
  ·exact EV a _ (DO _) k h
  exact JE a r k h
def Hw{b:Bk}(a:0<=b.sl)(c:b.sl<=1000):∀k∈iA b,Sm k.gQ:=by
 intro k h;rcases qAi.1 h with rfl | h
 ·exact⟨by show(-100000:Int)<=0;omega,by show(0:Int)<=100000;omega⟩
 exact JE O _ k h
def QR:(⟨0,0,0,0⟩:N4).Sm:=by exact GI
section
variable{P:fP}[Tz P][Loud P]
theorem M2{l:List gJ}{n:Nat}(a:n<(l.map oE).length):(l.map oE)[n]=[l8 (l[n]'(by simpa using a))]:=by rw[qBn];rfl
def qE(b:Bk):Bool:=!(gT b).isEmpty
end
def HQ{n:Nat}:∀{l:List nT},x6 n l=0->∀c∈l,(0<=c.p/\c.p<n)/\(-199<=c.gl/\c.gl<=c.gh/\c.gh<=199)
 | [],_,c,h=>by simp at h
 | a :: l,h,c,b=>by
  rw[x6]at h;split at h
  ·simp at h
  split at h
  ·simp at h
  rcases qAi.1 b with rfl | b
  ·exact⟨O,O⟩
  exact HQ h c b
structure jB(b:Bk):Prop where
 op:0<=b.op/\b.op<=99
 sl:0<=b.sl/\b.sl<=3
 n:2<=b.fM.length/\b.fM.length<=4
 fM:∀i (h:i<b.fM.length),(0<=b.fM[i].ml/\b.fM[i].ml<=b.fM[i].mh/\b.fM[i].mh<=99)/\b.fM[i].mh-b.fM[i].ml<3/\(0<=b.fM[i].bl/\b.fM[i].bl<=b.fM[i].bh/\b.fM[i].bh<=199)/\(0<=b.fM[i].w/\b.fM[i].w<=199)
 L3:b.iE.length<=3
 iE:∀c∈b.iE,(0<=c.p/\c.p<b.fM.length)/\(-199<=c.gl/\c.gl<=c.gh/\c.gh<=199)
def tB{b:Bk}(h:jY b=0):jB b:=by
 unfold jY at h;split at h
 ·rename_i c;exact absurd h c
 rename_i c;split at h
 ·rename_i a;exact absurd h a
 rename_i a;have c:lT b=0:=qAb c;have a:lF b=0:=qAb a;have k:(0<=b.op/\b.op<=99)/\(0<=b.sl/\b.sl<=3):=by
  unfold lT at c;split at c
  ·assumption
  simp at c
 unfold lF at a;split at a
 ·simp at a
 rename_i l;have m:b.fM.all vI=true:=by
  split at a
  ·assumption
  simp at a
 have f:2<=b.fM.length/\b.fM.length<=4:=qAb l;unfold nE at h;split at h
 ·simp at h
 refine⟨k.1,k.2,f,λi n=>?_,O,HQ h⟩;have:=qAf.1 m b.fM[i] (iN n);simp only[vI,qAc,qAK]at this;exact⟨this.1.1.1,this.1.1.2,this.1.2,this.2⟩
def jB.good{b:Bk}(v:jB b):BO b where
 bk:=⟨⟨by have:=v.op;omega,by have:=v.op;omega⟩,v.n.2⟩
 fM:=⟨λi h=>by obtain⟨_,_,e,_⟩:=v.fM i h;exact⟨O,O⟩,λi h=>by obtain⟨_,_,e,_⟩:=v.fM i h;exact⟨O,O⟩,λi h=>by obtain⟨_,_,_,l⟩:=v.fM i h;exact⟨O,O⟩⟩
 iE:=λc f=>by have a:=(v.iE c f).1;have k:=v.n.2;exact⟨a.1,O⟩
 ckl:=by have:=v.L3;omega
 FJ:=v.n.1
 Qg:=v.sl.1
 mD:=v.sl.2
 wide:=λi h=>(v.fM i h).2.1
 ml:=λi h=>by obtain⟨a,_⟩:=v.fM i h;exact⟨O,O⟩
 mh:=λi h=>by obtain⟨a,_⟩:=v.fM i h;exact⟨O,O⟩
def IA(a:Int)(b:Nat):∀r,(iX a b r).length<=r
 | 0=>by simp[iX]
 | r+1=>by
  rw[iX];have:=IA a b r;split
  ·omega
  simp;omega
def E7(n a:Nat):∀r,(hY n a r).length<=r * (2 * a+1)
 | 0=>by simp[hY]
 | r+1=>by rw[hY,IN];have c:=IA ((n:Int)-(r+1:Nat)) a (2 * a+1);have e:=E7 n a r;have b:=qBx r (2 * a+1);rw[Nat.succ_eq_add_one]at b;omega
def JI{b:Bk}(v:jB b):(iA b).length<=22:=by obtain⟨f,h⟩:=v.sl;obtain⟨i,k⟩:=v.n;have:=E7 b.fM.length b.sl.toNat (b.fM.length-1);have e:(b.fM.length-1) * (2 * b.sl.toNat+1)<=3 * 7:=qBK O O;simp only[iA,qAF];omega
def IL{f:Int->List gJ}{hi:Int}{k:Nat}(a:∀v,(f v).length<=k):∀c,(kU f hi c).length<=c * k
 | 0=>by simp[kU]
 | c+1=>by rw[kU,IN,qBx];have:=a (hi-c);have:=IL (hi:=hi) a c;omega
def HU{b:Bk}(v:jB b):∀r,r<=b.fM.length->∀m,(gN b r m).length<=3 ^ r * 22
 | 0,_,m=>by rw[gN];have c:=qBN (mJ b) ((iA b).map λk=>(⟨m,k.bf,k.gQ⟩:gJ));have h:=JI v;rw[qAd]at c;omega
 | r+1,l,m=>by rw[gN];have c:=IL (f:=λv=>gN b r (m.put (b.fM.length-(r+1)) v)) (hi:=(iH b (b.fM.length-(r+1))).mh) (λw=>HU v r O _) ((iH b (b.fM.length-(r+1))).mh-(iH b (b.fM.length-(r+1))).ml+1).toNat;have hi:b.fM.length-(r+1)<b.fM.length:=O;have e:iH b (b.fM.length-(r+1))=b.fM[b.fM.length-(r+1)]:=ZG hi _;obtain⟨_,i,_⟩:=v.fM _ hi;rw[e]at c ⊢;refine qAP c ?_;rw[qCC,qDT (3 ^ r) 3,Nat.mul_assoc];exact qAV _ O
def BN{b:Bk}(v:jB b):(gT b).length<=1782:=by have c:=HU v b.fM.length (DO _) ⟨0,0,0,0⟩;have e:3 ^ b.fM.length<=3 ^ 4:=qAR O v.n.2;unfold gT;omega
def Fx(b:Bk)(c a w:Value):Value:=.agg #[vi b.op,vi b.sl,c,a,w]
def Fp:Value:=.agg #[vi 0,vi 0,.slice none 0 0,.slice none 0 0,.slice none 0 0]
def kD(b:Bk)(a:Bool):Int:=if jY b≠0 then jY b else if a=false then 6 else if(gT b).length=0 then 9 else 0
def BQ(m:N4):Prop:=∀j,j<4->0<=m.get j/\m.get j<=99
def EU{b:Int}{a:Nat}:∀r,r<=2 * a+1->∀k∈iX b a r,k.bf=b/\-(a:Int)<=k.gQ/\k.gQ<=a/\k.gQ≠0
 | 0,_,k,h=>by simp[iX]at h
 | r+1,e,k,h=>by
  rw[iX]at h;split at h
  ·exact EU r O k h
  rename_i c;rcases qAi.1 h with rfl | h
  ·exact⟨rfl,by show -(a:Int)<=(a:Int)-r;omega,by show(a:Int)-r<=a;omega,c⟩
  exact EU r O k h
def JD{n a:Nat}:∀r,r+1<=n->∀k∈hY n a r,(1<=k.bf/\k.bf<n)/\-(a:Int)<=k.gQ/\k.gQ<=a/\k.gQ≠0
 | 0,_,k,h=>by simp[hY]at h
 | r+1,e,k,h=>by
  rw[hY]at h;rcases qAj.1 h with h | h
  ·obtain⟨c,b⟩:=EU _ (DO _) k h;exact⟨⟨O,O⟩,b⟩
  exact JD r O k h
def E4{b:Bk}(v:jB b):∀k∈iA b,-3<=k.gQ/\k.gQ<=3:=by
 intro k h;have:=v.sl;have:=v.n;rcases qAi.1 h with rfl | h
 ·exact⟨by show(-3:Int)<=0;omega,by show(0:Int)<=3;omega⟩
 have:=JD _ O k h;omega
def IM{f:Int->List gJ}{a:Int}{x:gJ}:∀{c:Nat},x∈kU f a c->∃v,a-c<v/\v<=a/\x∈f v
 | 0,h=>by simp[kU]at h
 | c+1,h=>by
  rw[kU]at h;rcases qAj.1 h with h | h
  ·exact⟨a-c,O,O,h⟩
  obtain⟨v,i,b,e⟩:=IM h;exact⟨v,O,b,e⟩
def HT{b:Bk}(v:jB b):∀r,r<=b.fM.length->∀m,BQ m->∀x∈gN b r m,BQ x.m/\-3<=x.gQ/\x.gQ<=3
 | 0,_,m,c,x,h=>by rw[gN]at h;obtain⟨k,l,rfl⟩:=qAy.1 (qAu.1 h).1;exact⟨c,E4 v k l⟩
 | r+1,p,m,c,x,h=>by
  rw[gN]at h;have e:b.fM.length-(r+1)<b.fM.length:=O;rw[show iH b (b.fM.length-(r+1))=b.fM[b.fM.length-(r+1)]from ZG e _]at h;obtain⟨q,_⟩:=v.fM _ e;obtain⟨w,n,o,i⟩:=IM h;refine HT v r O _ (λj f=>?_) x i;rw[N4.iC _ _ f];split
  ·omega
  exact c j f
def QQ:BQ ⟨0,0,0,0⟩:=by exact GI
def Dd{b:Bk}(v:jB b):∀x∈gT b,BQ x.m/\-3<=x.gQ/\x.gQ<=3:=HT v _ (DO _) _ QQ
def Db{x:gJ}(h:BQ x.m/\-3<=x.gQ/\x.gQ<=3):CK x:=⟨λj a=>by have:=h.1 j a;exact⟨O,O⟩,⟨O,O⟩⟩
section
variable{P:fP}[Tz P][Loud P]{H:Hp}
def Fw{b:Bk}(h:kD b true=0):jY b=0/\1<=(gT b).length:=by
 unfold kD at h;split at h
 ·exact absurd h (by assumption)
 split at h
 ·simp at h
 split at h
 ·simp at h
 exact⟨O,O⟩
end
def Hu(l:List jL):((Zd l).all Value.gM)=true:=sU (λ_=>rfl) l
instance:DecidableEq jL:=λa b=>decidable_of_iff (a.bf=b.bf/\a.gQ=b.gQ) ⟨λ⟨h1,h2⟩=>by cases a;cases b;simp_all,λh=>by subst h;exact⟨rfl,rfl⟩⟩
section
variable{P:fP}[Tz P][Loud P]{H:Hp}
def gapL(b:Bk)(p:Nat):List Int:=UE (sB ((gT b).map λx=>(iZ b x).get p))
end
def Xp:Bk:=⟨0,0,[],[]⟩
def rG(b:Bk):Int:=if jY b≠0 then jY b else if qE b=false then 9 else 0
abbrev M5:Value:=.agg #[vi 0,vi 0,.slice none 0 0,.slice none 0 0]
def Cv(H:Hp):iM H M5 Xp:=⟨_,_,rfl,.nil H,.nil H⟩
def Pd(H:Hp)(v:Value)(s:Int)(b:Bk):Prop:=∃w,v=.tuple #[w,vi s]/\iM H w (if s=0 then b else Xp)
def E8[Enc α]{H:Hp}{E:TypeId}{a:Value}{l:List α}(h:(l=[]/\a=.slice none 0 0)\/∃b,gL H H' E a l b):∃b,gL H H' E a l b:=by
 rcases h with⟨rfl,rfl⟩ | h
 ·exact⟨none,.nil _ _ _⟩
 exact h
def ES{H:Hp}{s:Int}{b:Bk}(h:s≠0):Pd H (.tuple #[M5,vi s]) s b:=⟨_,rfl,by rw[iF h];exact Cv H⟩
section
variable{P:fP}[Tz P][Loud P]{H:Hp}
def kR(b:Bk)(c:nT):Bk:={ b with iE:=b.iE++[c] }
def uJ(b:Bk)(c:nT):Int:=if jY b≠0 then jY b else rG (kR b c)
end
def IW:Tryz.prog.underlying 57=some (.slice 45):=U
def t34:Yw Tryz.prog 45=some (1,some (.slice none 0 0),24):=U
theorem JK{p:List α->Prop}(c:p [])(e:∀l x,p l->p (l++[x])):∀l,p l:=by
 have:∀(n:Nat) (l:List α),l.length=n->p l:=by
  intro n;induction n with
  | zero=>intro l a;rw[qAr a];exact c
  | succ n ih=>
   intro l a;have b:l≠[]:=by rintro rfl;simp at a
   rw[<-List.dropLast_concat_getLast b];exact e _ _ (ih _ (by simp;omega))
 exact λl=>this _ l rfl
end
section
open Go.Z
def E0:Zc:=de 6 (.eE 6 [6] 0) (o 8 (.eE 8 [8,61] 2)) (eR (.eE 10 [10] 4)) (m0 12) [] (S (fa 24 6 5 7 24 (o 26 (.not 25)) (aL 26) (ac (dq 27 (.gO 8 (some 4) 8)) (gf 27 29 (.call 8 [28])) (gf 27 30 (.not 29)) (bA 27 30) (fh 31 (dq 32 (.gO 8 (some 4) 8)) (gf 32 34 (.call 9 [33])) (gf 32 35 (.len 34)) (aD (gf 32 36 (.fV .eql 35 (k 0))) (bA 32 36)))) (cr 37 (aI (c0 38 10) 12 38))) (eK 40 8 4 (aN 41 10 3) 11 40 (m 39 42) (dC (dg 43 39) (dh 44 39) (o 13 (.eC 13 [13] [z0,z0,s0,s0])) (bo 13 4 43) 14 44) (aK (fj 45 14 (aI (c0 47 10) 12 47)) (aj [aN 48 13 4,aN 49 8 4,aN 50 10 3,(cy 13 49,(some false)),bC 12 48 51,o 53 (.not 52),aL 53,dq 54 (.gO 13 (some 4) 13),gf 54 56 (.call 14 [55]),gf 54 57 (.fV .neq 56 (k 0)),bA 54 57] (cj 58 12)) (an 59 3 (o 60 (.gE (.convert 5 3 59) 3)) (f 61 2 8) (au 8 61) (aY (aO 62) (o 64 (.gE (.binOp .rem 3 60 63 3) 3)) 15 64) (eK 66 8 4 (m 67 15) 15 66 (m 65 68) (cm (dg 69 65) (dh 70 65) (m 16 69) 17 70) (eK 72 13 4 (m 73 15) 15 72 (m 71 74) (cm (dg 75 71) (dh 76 71) (m 18 75) 19 76) (an 78 16 (bp 16 78) (m 77 79) (dg 80 77) (ec (dh 81 77) (o 20 (.eC 20 [20] [z0,z0])) 20 2 80 21 81) (an 83 18 (bp 16 83) (m 82 84) (dg 85 82) (ec (dh 86 82) (o 22 (.eC 22 [22] [z0,z0])) 22 2 85 23 86) (fC 87 17 (ax .eql 87 0) (aL 88) (bX 89 19) (a8 (gt 89 91 (.fV .eql 90 (k 0))) (bw 89 91) (aL 92) (bX 93 21) (bw 93 94) (aL 95) (bX 96 23) (bw 96 97) (fh 98 (gt 99 100 (.gO 6 (some 5) 6)) (mt 99 101 1) (gt 99 102 (.gO 20 (some 2) 20)) (ac (gt 99 103 (.gO 22 (some 2) 22)) (mt 99 104 5) (gt 99 105 (.call 17 [100,101,102,103,104])) (bw 99 105) (fh 106 (gt 107 108 (.call 10 [])) (bw 107 108) (m 12 109) [])))))))))))))
def JF:List Ze:=[(.aW 12)]
def Bx:aU Tryz.prog 3 6 E0 JF:=fN [(6,6),(8,8),(10,10),(13,13),(20,20),(22,22),(61,8)] Tryz.func3
end
def oF(b:Bk)(l:List Int)(k:jL):List Int:=(List.range l.length).map λi=>b.op-l.getD i 0+if k.bf<=i then k.gQ else 0
def yF(b:Bk)(g:List Int):Bool:=b.iE.all λc=>decide (c.gl<=g.getD c.p.toNat 0/\g.getD c.p.toNat 0<=c.gh)
def jM(b:Bk)(i:Nat):List Int:=(List.range ((iH b i).mh-(iH b i).ml+1).toNat).map λ(t:Nat)=>(iH b i).ml+t
def mR(b:Bk):Nat->List (List Int)
 | 0=>[[]]
 | i+1=>(mR b i).flatMap λl=>(jM b i).map λn=>l++[n]
def IK{b:Bk}(v:jB b){i:Nat}(a:i<b.fM.length):(jM b i).length<=3:=by rw[jM,qAd,qBo,show iH b i=b.fM[i]from ZG a _];have:=v.fM i a;omega
def EY{b:Bk}(v:jB b):∀i,i<=b.fM.length->(mR b i).length<=3 ^ i
 | 0,_=>by simp[mR]
 | i+1,a=>by rw[mR,qCC];exact qAP (HD λl c=>by rw[qAd];exact IK v O) (qAV _ (EY v i O))
def y6{b:Bk}(v:jB b):∀i,i<=b.fM.length->∀l∈mR b i,l.length=i/\∀x∈l,0<=x/\x<=99
 | 0,_,l,a=>by rw[mR,iO]at a;subst a;simp
 | i+1,p,l,a=>by
  rw[mR,qCP]at a;obtain⟨m,o,a⟩:=a;obtain⟨n,e,rfl⟩:=qAy.1 a;obtain⟨h,k⟩:=y6 v i O m o;refine⟨by simp[h],λx c=>?_⟩;rcases qAj.1 c with c | c
  ·exact k x c
  rw[iO.1 c];rw[jM,qAy]at e;obtain⟨t,f,rfl⟩:=e;rw[qAA]at f;rw[show iH b i=b.fM[i]from ZG O _]at f ⊢;have:=v.fM i O;omega
def M7{H:Hp}{a:Addr}{b:List Value}(h:aM H a b):aM H (a.add 0) b:=by rw[add_zero];exact h
