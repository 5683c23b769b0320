import Derived.Test.YtmfealhfgccmfaaGreatDoorP38
set_option linter.all false
set_option maxHeartbeats 400000
section
namespace Go.LL
section
variable{P:fP}{σ:fG}{H:Hp}{Qe:Ex->fG->Hp->Prop}{b:Zc}
def uI{α:Type}{n j:Nat}{I:Nat->α->Hp->Prop}{env:Nat->α->List (Nat×Value)}{box:Nat->α->List (Nat×List Value)}{σ':fG}{f:List Deferred}(a:α)(k:j<n)(g:I (j+1) a H)(i:rK (env (j+1) a) σ')(hb:rL (box (j+1) a) σ')(h:σ'.gR=f) :
  ∃e:{ j:Nat // j<=n }×α,n-e.1.1<n-j/\I e.1.1 e.2 H/\rK (env e.1.1 e.2) σ'/\rL (box e.1.1 e.2) σ'/\σ'.gR=f:=⟨⟨⟨j+1,k⟩,a⟩,by show n-(j+1)<n-j;omega,g,i,hb,h⟩
end
end Go.LL
end
open Go Go.LL
namespace Go.Proofs
section
open Go.Z
def IT:Zc:=de 5 (.eE 5 [5,18] 0) (o 7 (.eE 7 [7] 2)) (o 8 (.eE 8 [8] 3)) (m0 10) [] (an 16 1 (o 17 (.gE (.convert 5 3 16) 3)) (f 18 3 5) (au 5 18) (aY (aO 19) (o 21 (.gE (.binOp .rem 3 17 20 3) 3)) 11 21) (S (eK 22 7 2 (aN 23 8 2) 80 22 (o 25 (.not 24)) [] (cj 25 10)) (aj [aN 27 5 5,db 28,aN 29 7 2,o 12 (.eC 12 [12] [z0,z0,z0,s0,s0]),(o 30 (.call 82 [29,(k 1),(k 20)]),(some false)),(eI 61 27 28 30,(some false)),m 26 31,dg 32 26,dh 33 26,fB 12 32,m 13 33] (aj [aN 35 5 5,db 36,aN 37 8 2,o 14 (.eC 14 [14] [z0,z0,z0,s0,s0]),(o 38 (.call 82 [37,(k 1),(k 20)]),(some false)),(eI 61 35 36 38,(some false)),m 34 39,dg 40 34,dh 41 34,fB 14 40,m 15 41] (aV 42 5 5 (aN 43 12 5) (aN 44 14 5) (m 45 13) (az 46 15 (fx 47) (bR 48) (o 49 (.call 83 [42,43,44,45,46,47,48])) (am 10 49)) .ret)))))
def Ep:List Ze:=[(.aW 10)]
def Ds:aU Tryz.prog 27 5 IT Ep:=fN [(5,5),(7,7),(8,8),(12,12),(14,14),(18,5)] Tryz.func27
def IB:Zc:=de 2 (.eE 2 [2,13,19] 0) (dI 3) (du (.eC 4 [4] [z0,s0,s0,s0])) (bY 5) [] (S (cq 7 2 4 (bp 112 7) (am 6 8) (fj 9 6 (ec (o 11 (.build [z0,s0,s0,s0] [])) (dW 12) 4 4 11 5 12))) (aj [dB 13 3,dw 13,aN 16 3 3,u (.build [z0,z0,(.bool false)] [(0,(3,16))]),(bp 113 14,(some false)),(o 17 (.fJ 91 1 [z0,z0,(.bool false)] [(0,(3,16))]),(some false)),(o 18 (.raw (.call (.mk (.builtin .append) #[15,17] #[86,86])) 86),none),dB 19 3,ls 2 1 19 18] (fa 20 2 4 114 20 (dg 22 21) (dh 23 21) (aI (bo 4 4 22) 5 23) .ret)))
def Gh:List Ze:=[(.kS 4 4 (some 4)),(.aW 5)]
def WfV:aU Tryz.prog 37 2 IB Gh:=fN [(2,2),(3,3),(4,4),(13,2),(19,2)] Tryz.func37
def IH:Zc:=de 2 (.eE 2 [2] 0) (o 3 (.raw (.box 3 1) 0)) ee (bY 5) [] (aK (.jC [[(l 9 2 4 2,none),(ld 10 3,none),(o 6 (.raw (.alloc 224) 0),(some true)),(o 11 (.call 121 [10,(k 0)]),(some false)),(c2 12 120 9 11,none),(m 8 12,none),(x 13 8 0,none),(x 14 8 1,none),(st 224 6 13 0,(some false)),(m 7 14,none)],[(l 9 2 4 2,none),(ld 10 3,none),(o 11 (.call 121 [10,(k 0)]),(some false)),(o 6 (.raw (.alloc 224) 0),(some false)),(c2 12 120 9 11,none),(m 8 12,none),(x 13 8 0,none),(x 14 8 1,none),(st 224 6 13 0,(some false)),(m 7 14,none)],[(l 9 2 4 2,none),(ld 10 3,none),(o 11 (.call 121 [10,(k 0)]),(some false)),(c2 12 120 9 11,none),(m 8 12,none),(x 13 8 0,none),(x 14 8 1,none),(o 6 (.raw (.alloc 224) 0),(some false)),(st 224 6 13 0,(some false)),(m 7 14,none)]]) (fj 15 7 (ec (eF 17) (eJ 18) 4 2 17 5 18)) (de 19 (.fE 4 6) (aJ 19) (o 21 (.raw (.makeFunc (.func 124) #[] #[6,3]) 234)) (cy 123 20) (aa (bp 122 22) (bo 4 2 23) (dy 5)) .ret))
def Gn:List Ze:=[(.kS 4 4 (some 2)),(.aW 5)]
def WfQ:aU Tryz.prog 42 2 IH Gn:=fN [(2,2),(4,4)] Tryz.func42
def JO:Zc:=bZ 1 (.eE 1 [1] 0) 2 (S (bZ 6 (.ld (some 3) (.global 2)) 7 (cf 0 8 (fu 7 3) 1 (bn 9 (.raw (.index 305 6 7) 227) (dP 4) (cS 10 4 (aN 11 1 4) 12 (.build [z0,s0,s0,s0] [(0,(4,11))]) (o 13 (.raw (.call (.mk (.value 10) #[12] #[221])) 39)) (am 5 13) (fj 14 5 (aI (di 16) 2 16)))) 17 7 1 7 17)) (cB 2))
def Gr:List Ze:=[(.aW 2)]
def WfN:aU Tryz.prog 112 1 JO Gr:=fN [(1,1)] Tryz.func112
def JU:Zc:=bZ 1 (.eE 1 [1,4,9,16,25] 0) 2 (aK (dY 4 3 1 5 (dx 6 3) [] (eS 7 2)) (dd 3 0 12 8 3 (eZ 9 3) (dN 9) (aO 10) (bQ 8 11) 1 (aj [aN 15 1 4,eZ 16 3,dN 16,dm 18,aF 19 3 17,o 20 (.fE 0 19),aJ 20,bC 186 15 21,o 23 (.not 22),aL 23,dq 24 (.fH 3 1),gf 24 26 (.gO 1 none 25),mf 24 27 3,gf 24 28 (.gC 3 26 27),gf 24 29 (.fE 1 28),gf 24 30 (.ld none 29),gf 24 31 (.call 71 [30,(k 0),(k 959)]),gf 24 32 (.not 31),bA 24 32] (eS 33 1)) 13 14 3) (cB 2))
def Fg:List Ze:=[(.aW 2)]
def WfI:aU Tryz.prog 117 1 JU Fg:=fN [(1,1),(4,1),(9,1),(16,1),(25,1)] Tryz.func117
def IY:Zc:=eQ 2 (.eC 2 [2] [z0,z0]) (aj [bg 3,du (.gC 1 3 (k 0)),aJ 4,bg 6,(o 7 (.gE (.slice 45 6 (some (k 1)) none none) 45),none),bC 191 5 7,bo 2 2 8] .ret)
def Fl:List Ze:=[(.kS 2 2 (some 2))]
def WfE:aU Tryz.prog 122 1 IY Fl:=fN [(2,2)] Tryz.func122
def I4:Zc:=bZ 1 (.eE 1 [1] 0) 2 (cB 2)
def Fu:List Ze:=[(.aW 2)]
def Wfy:aU Tryz.prog 182 1 I4 Fu:=fN [(1,1)] Tryz.func182
def I8:Zc:=bn 1 (.raw (.box 221 0) 0) (al 2) (eQ 3 (.raw (.alloc 222) 0) (S (af (lm 5 4 1) (o 6 (.raw (.makeFunc (.func 256) #[5] #[]) 375)) [] (B 0 (.nZ 6 [7] (.fK [o 4 (.raw (.alloc 232) 0),st 232 4 7 0]) (B 1 (.fK [ld 8 3,lm 9 5 4,o 10 (.fJ 232 1 [z0,z0,z0,z0,z0] [(0,(5,9))]),o 11 (.raw (.call (.mk (.builtin .append) #[8,10] #[222,222])) 222),st 222 3 11 0]))))) (af (ld 12 3) (dE 2) [] .ret)))
def Fz:List Ze:=[(.aW 2)]
def Wft:aU Tryz.prog 187 1 I8 Fz:=fN [] Tryz.func187
def JH:Zc:=bJ 2 (dO 5 0 (aO 5) (ag (fu 6 1)) (bF 7 (aD (o 8 (.raw (.makeInterface 9 (.const (.string (.mk #[115,108,105,99,101,115,46,77,105,110,58,32,101,109,112,116,121,32,108,105,115,116])))) 20)) (u (.raw (.panic 8) 0)))) (an 9 0 (eR (.gC 1 9 (k 0))) (aJ 10) (db 3) [] (S (aB 4 1 (bM 0 15 12 4 (bg 13) (aO 13) (ba 12 14) [] 1 (dk 18 3 (bg 19) (fx 20) (cH 21 19) (aY (aJ 21) (o 23 (.gE (.call (.mk (.builtin .min) #[18,22] #[3,3])) 3)) 3 23)) 16 17 4)) (eH 24 3 2))))
def Ea:List Ze:=[(.aW 2)]
def Wfl:aU Tryz.prog 257 1 JH Ea:=fN [] Tryz.func257
def JJ:Zc:=bJ 4 (ci 6 0 1 (o 8 (.gE (.binOp .quo 3 6 7 3) 3)) 5 8 [] (S (bm 9 5 1 (bD .mul 9) (bg 12) (ag (bD .gtr 11)) (bF 13 (cG 14 5 (cZ 14) 5 15))) (eH 16 5 4)))
def Ed:List Ze:=[(.aW 4)]
def Wfi:aU Tryz.prog 321 2 JJ Ed:=fN [] Tryz.func321
def JL:Zc:=aG 5 (.eE 5 [5,21,22,29,30] 0) (o 7 (.eE 7 [7,38,42,47,50] 2)) (dy 10) (bJ 11 (S (cO 13 3 12 (bt 0 16 (aa (dE 14) (fx 15) (bQ 14 15)) 1 (.drawn [(db 19,none),(bR 20,none),(fw 21 5,none),(cu 1 21,none),(au 5 22,none),(dE 24,none),(eD 24,none),(eh 3 23 25,none),(o 27 (.fE 0 26),none),(aJ 27,none),(fw 29 5,none),(cu 1 29,none),(au 5 30,none),(dE 32,none),(aF 33 3 31,none),(o 34 (.fE 0 33),none),(aJ 34,none),(ay .sub 28 35,none),(dE 37,none),(o 38 (.hO 1 5 7 37),none),(au 7 38,none),(dE 40,none),(eD 40,none),(o 42 (.hO 1 5 7 41),none),(au 7 42,none),(ay .sub 39 43,none),(dE 45,none),(eD 45,none),(o 47 (.hO 1 5 7 46),none),(au 7 47,none),(dE 49,none),(o 50 (.hO 1 5 7 49),none),(au 7 50,none),(ay .sub 48 51,none),(o 53 (.gE (.call (.mk (.builtin .max) #[44,52] #[3,3])) 3),none),(o 54 (.build [z0,z0] [(0,(1,36)),(1,(1,53))]),none),(bC 369 20 54,(some false)),(eu 19 55,none),(m 11 56,none)]) 17 18 12)) (eH 57 11 10)))
def Eg:List Ze:=[(.aW 10)]
def Wfg:aU Tryz.prog 355 5 JL Eg:=fN [(5,5),(7,7),(21,5),(22,5),(29,5),(30,5),(38,7),(42,7),(47,7),(50,7)] Tryz.func355
def IK:Zc:=bJ 2 (bJ 3 (S (bH 0 (S (an 4 3 (eD 4) (dm 6) (eD 6) (eG (ay .mul 5 7) (bg 9) (eT 8)) (dH 10 0)) (B 1 (ic 11 12 3)))) (eH 13 3 2)))
def Ei:List Ze:=[(.aW 2)]
def Be:aU Tryz.prog 372 1 IK Ei:=fN [] Tryz.func372
def IR:Zc:=bZ 3 (.eE 3 [3] 0) 6 (S (B 0 (eK 8 3 4 (bR 9) 406 8 (o 11 (.not 10)) (fh 11 (dq 12 (.gO 3 (some 4) 3)) (mf 12 14 2) (gf 12 15 (.call 406 [13,14])) (aY (gf 12 16 (.not 15)) (bA 12 16) 7 17)) (N 7 (aB 6 6 .ret) (ci 19 1 2 (bD .geq 19) 18 21 [] (bj 18 6 7))))) (cB 6))
def En:List Ze:=[(.aW 6)]
def Dp:aU Tryz.prog 405 3 IR En:=fN [(3,3)] Tryz.func405
def IC:Zc:=aG 2 (.eE 2 [2,8,14,23,32,41,47,59,65,77,83] 0) (o 3 (.eE 3 [3,10,17,26,35,52,70,88] 1)) (ag (m0 4)) (aK (dX 8 0 2 (fw 10 3) (au 3 10) (fA (ay .neq 9 11) (aL 12) (dq 13 (.fH 1 2)) (gf 13 15 (.gO 2 none 14)) 13 16 (.len 15) (gf 13 17 (.fH 1 3)) (gf 13 18 (.gO 3 none 17)) (gf 13 19 (.len 18)) (fA (gf 13 20 (.fV .neq 16 19)) (bA 13 20) (aL 21) (dq 22 (.fH 2 2)) 22 24 (.gO 2 none 23) (gf 22 25 (.len 24)) (gf 22 26 (.fH 2 3)) (gf 22 27 (.gO 3 none 26)) (a8 (gf 22 28 (.len 27)) (gf 22 29 (.fV .neq 25 28)) (bA 22 29) (aL 30) (dq 31 (.fH 3 2)) (gf 31 33 (.gO 2 none 32)) (gf 31 34 (.len 33)) (gf 31 35 (.fH 3 3)) (ce (gf 31 36 (.gO 3 none 35)) (gf 31 37 (.len 36)) (gf 31 38 (.fV .neq 34 37)) (bA 31 38))))) (cj 39 4)) (dd 5 0 44 40 5 (dB 41 1) (dw 41) (aO 42) (bQ 40 43) 1 (aj [dB 47 1,dw 47,di 49,aF 50 3 48,bB 3 50,f 52 1 3,au 3 52,di 54,aF 55 3 53,bB 3 55,o 57 (.gE (.binOp .neq 212 51 56 212) 4)] (cj 57 4)) 45 46 5) (aK (dd 6 2 62 58 6 (dB 59 2) (dw 59) (aO 60) (bQ 58 61) 3 (aj [dB 65 2,dw 65,dW 67,aF 68 4 66,bB 4 68,f 70 2 3,au 3 70,dW 72,aF 73 4 71,bB 4 73,o 75 (.gE (.binOp .neq 217 69 74 217) 4)] (cj 75 4)) 63 64 6) (dd 7 4 80 76 7 (dB 77 3) (dw 77) (aO 78) (bQ 76 79) 5 (aj [dB 83 3,dw 83,eJ 85,aF 86 3 84,bB 3 86,f 88 3 3,au 3 88,eJ 90,aF 91 3 89,bB 3 91,o 93 (.gE (.binOp .neq 91 87 92 91) 4)] (cj 93 4)) 81 82 7) (dM (m1 4))))
def Gi:List Ze:=[(.aW 4)]
def WfU:aU Tryz.prog 38 2 IC Gi:=fN [(2,2),(3,3),(8,2),(10,3),(14,2),(17,3),(23,2),(26,3),(32,2),(35,3),(41,2),(47,2),(52,3),(59,2),(65,2),(70,3),(77,2),(83,2),(88,3)] Tryz.func38
def JP:Zc:=dJ 2 (S (aZ 3 0 (du (.gE (.binOp .eql 86 3 (.const s0) 86) 4)) (bz 4 (al 2))) (de 5 (.raw (.buildSlice 86 0 #[]) 86) (bg 6) (o 7 (.raw (.call (.mk (.builtin .append) #[5,6] #[86,86])) 86)) (eJ 2) [] .ret))
def Fb:List Ze:=[(.aW 2)]
def WfM:aU Tryz.prog 113 1 JP Fb:=fN [] Tryz.func113
def HY:Zc:=bZ 2 (.eE 2 [2,5,8,10] 0) 4 (aj [dB 5 0,dw 5,bR 7,dB 8 1,dw 8,dB 10 0,dw 10,ay .sub 9 11,eD 12,o 14 (.gE (.binOp .rem 3 7 13 3) 3),eu 6 14,m 4 15] .ret)
def Ck:List Ze:=[(.aW 4)]
def WfY:aU Tryz.prog 118 2 HY Ck:=fN [(2,2),(5,2),(8,2),(10,2)] Tryz.func118
def IZ:Zc:=dJ 4 (dJ 5 (dO 8 0 (aO 8) (dy 10) (cX 0 11 11 10 9 1 (ae (ia 12 5 8 10) (bB 5 12) (o 7 (.eC 7 [7] [z0,z0,z0,z0,z0])) (fB 7 13) [] (dk 14 5 (bR 15) (aN 16 7 5) (o 17 (.raw (.call (.mk (.value 15) #[16] #[232])) 3)) (aY (o 18 (.fJ 3 1 [z0] [(0,(1,17))])) (o 19 (.raw (.call (.mk (.builtin .append) #[14,18] #[45,45])) 45)) 5 19))) 20 10 1 10 20) (eH 21 5 4)))
def Fo:List Ze:=[(.aW 4)]
def WfD:aU Tryz.prog 123 2 IZ Fo:=fN [(7,7)] Tryz.func123
def I5:Zc:=dJ 2 (S (aZ 3 0 (du (.gE (.binOp .eql 84 3 (.const s0) 84) 4)) (bz 4 (al 2))) (de 5 (.raw (.buildSlice 84 0 #[]) 84) (bg 6) (o 7 (.raw (.call (.mk (.builtin .append) #[5,6] #[84,84])) 84)) (eJ 2) [] .ret))
def Fv:List Ze:=[(.aW 2)]
def Wfx:aU Tryz.prog 183 1 I5 Fv:=fN [] Tryz.func183
def I9:Zc:=bZ 3 (.eE 3 [3] 0) 4 (S (eK 5 3 4 (ld 6 1) 189 5 (o 8 (.not 7)) (fh 8 (dq 9 (.ld none 2)) (gf 9 11 (.call 190 [10,(k 0),(k 959)])) (gf 9 12 (.not 11)) (ag (bA 9 12))) (bj 13 4 1)) (cB 4))
def Ga:List Ze:=[(.aW 4)]
def Wfs:aU Tryz.prog 188 3 I9 Ga:=fN [(3,3)] Tryz.func188
def E4:Zc:=bJ 2 (dO 5 0 (aO 5) (ag (fu 6 1)) (bF 7 (aD (o 8 (.raw (.makeInterface 9 (.const (.string (.mk #[115,108,105,99,101,115,46,77,97,120,58,32,101,109,112,116,121,32,108,105,115,116])))) 20)) (u (.raw (.panic 8) 0)))) (an 9 0 (eR (.gC 1 9 (k 0))) (aJ 10) (db 3) [] (S (aB 4 1 (bM 0 15 12 4 (bg 13) (aO 13) (ba 12 14) [] 1 (dk 18 3 (bg 19) (fx 20) (cH 21 19) (aY (aJ 21) (o 23 (.gE (.call (.mk (.builtin .max) #[18,22] #[3,3])) 3)) 3 23)) 16 17 4)) (eH 24 3 2))))
def Eb:List Ze:=[(.aW 2)]
def Wfk:aU Tryz.prog 258 1 E4 Eb:=fN [] Tryz.func258
def y9:Zc:=dA 6 (.eE 6 [6,48] 0) 8 (aK (cS 10 1 (o 11 (.fE 0 2)) 12 (.fE 1 11) (aJ 12) (aD (aO 13) (ay .eql 10 14)) (cr 15 (a8 (lm 16 4 2) (ld 17 3) (aN 18 6 5) (eI 323 16 17 18) (o 20 (.not 19)) (aL 20) (dq 21 (.ld none 4)) (gf 21 23 (.gO 6 (some 5) 6)) (aY (gf 21 24 (.raw (.call (.mk (.value 22) #[23] #[232])) 4)) (bA 21 24) 8 25)))) (de 26 (.fE 0 2) (o 27 (.fE 1 26)) (aJ 27) (bR 29) (dC (aF 30 3 28) (o 31 (.fE 1 30)) (o 32 (.fE 0 31)) (aJ 32) 9 33) (bM 0 43 34 9 (o 35 (.fE 0 2)) (o 36 (.fE 1 35)) (aJ 36) (az 38 1 (aF 39 3 37) (o 40 (.fE 1 39)) (o 41 (.fE 1 40)) (aD (aJ 41) (ay .leq 34 42))) 1 (bm 46 1 9 (o 48 (.hO 1 5 6 46)) (ls 6 1 48 47) [] (ae (ld 49 5) (aN 50 6 5) (bR 51) (eD 51) (aD (o 53 (.raw (.call (.mk (.value 49) #[50,52] #[232,3])) 4)) (o 54 (.not 53))) (cj 54 8))) 44 45 9)) (dM (m1 8)))
def Ee:List Ze:=[(.aW 8)]
def NH:aU Tryz.prog 322 6 y9 Ee:=fN [(6,6),(48,6)] Tryz.func322
def IL:Zc:=bZ 1 (.eE 1 [1,6,7,12,13,18,19,38,39] 0) 2 (aK (B 0 (dS 6 0 1 0 6 (dN 7) (o 9 (.call 190 [8,(k 0),(k 20)])) (aI (eR (.not 9)) 5 10) (N 5 (aB 2 1 .ret) (dS 12 0 1 1 12 (dN 13) (aO 14) (aY (o 16 (.call 190 [15,(k 2),(k 5)])) (o 17 (.not 16)) 11 17) (eS 11 2))))) (dS 18 0 1 1 18 (dN 19) (aO 20) (dy 22) (cX 1 23 23 22 21 2 (an 24 22 (ia 25 3 20 22) (bB 3 25) (du (.eC 4 [4,28,36,49,54,55,57,58] [z0,z0,z0])) (aD (m 3 24) (bo 4 3 26)) (B 3 (dX 28 0 4 (o 30 (.call 190 [29,(k 0),(k 959)])) (o 31 (.not 30)) (am 27 31) (N 27 (aB 2 1 .ret) (aj [dm 33,dx 33 0,aL 34,gt 35 36 (.fH 0 4),gt 35 37 (.gO 4 none 36),gt 35 38 (.fH 0 1),gt 35 39 (.fH 1 38),gt 35 40 (.gO 1 none 39),mt 35 41 3,gt 35 42 (.fV .sub 41 (k 1)),gt 35 43 (.gC 3 40 42),gt 35 44 (.fE 0 43),gt 35 45 (.ld none 44),gt 35 46 (.fV .leq 37 45),bw 35 46,m 32 47] (N 32 (aB 2 7 .ret) (aX 49 1 4 (l 50 4 2 49) (o 51 (.call 404 [50,(k 0),(k 959)])) (o 52 (.not 51)) (fh 52 (dq 53 (.fH 1 4)) (gf 53 55 (.fH 1 54)) (gf 53 56 (.gO 4 none 55)) (ac (gf 53 57 (.fH 1 4)) (gf 53 58 (.fH 0 57)) (gf 53 59 (.gO 4 none 58)) (gf 53 60 (.fV .sub 56 59)) (aY (gf 53 61 (.fV .geq 60 (k 3))) (bA 53 61) 48 62))) (eS 48 1)))))))) 63 22 1 22 63)) (cB 2))
def Ej:List Ze:=[(.aW 2)]
def Bf:aU Tryz.prog 401 1 IL Ej:=fN [(1,1),(4,4),(6,1),(7,1),(12,1),(13,1),(18,1),(19,1),(28,4),(36,4),(38,1),(39,1),(49,4),(54,4),(55,4),(57,4),(58,4)] Tryz.func401
def IS:Zc:=dA 2 (.eE 2 [2,6,7] 0) 4 (fC 5 1 (dB 6 0) (cu 1 6) (dw 7) (cm (aO 8) (cZ 9) (o 11 (.call 190 [5,(k 0),10])) 4 11))
def Eo:List Ze:=[(.aW 4)]
def Dq:aU Tryz.prog 406 2 IS Eo:=fN [(2,2),(6,2),(7,2)] Tryz.func406
def ID:Zc:=aG 2 (.eE 2 [2,8] 0) (dI 3) (bL 4 (.eC 4 [4] [z0,s0,s0,s0])) (cq 6 2 4 (o 5 (.eC 5 [5,14] [z0,s0,s0,s0])) (ag (bo 5 4 6)) (aj [dB 8 3,dw 8,aN 11 3 3,u (.build [z0,z0,(.bool false)] [(0,(3,11))]),(o 7 (.raw (.buildSlice 86 0 #[]) 86),(some false)),u (.build [z0,z0,(.bool false)] [(0,(3,11))]),(eR (.raw (.call (.mk (.builtin .append) #[7,9] #[86,86])) 86),(some false)),(o 12 (.fJ 91 1 [z0,z0,(.bool false)] [(0,(3,11))]),(some false)),(o 13 (.raw (.call (.mk (.builtin .append) #[10,12] #[86,86])) 86),none),f 14 3 5,ls 5 1 14 13] (cq 15 5 4 (bo 4 4 15) [] .ret)))
def Gj:List Ze:=[(.kS 4 4 (some 4))]
def WfT:aU Tryz.prog 39 2 ID Gj:=fN [(2,2),(3,3),(4,4),(5,5),(8,2),(14,5)] Tryz.func39
def JQ:Zc:=aG 1 (.eE 1 [1,15,18,21,24,25,26] 0) (o 2 (.eC 2 [2] [z0,s0,s0,s0])) (dy 3) (S (aV 7 1 4 (o 8 (.call 120 [7,(.func 182)])) (fc 6) (dg 9 6) (ec (dh 10 6) eY 4 5 9 5 10) (fj 11 5 (ec (o 13 (.build [z0,s0,s0,s0] [])) (di 14) 2 4 13 3 14))) (aj [eZ 15 1,dN 15,eZ 18 2,dN 18,eZ 21 3,dN 21,(bp 183 16,(some false)),eZ 24 1,(bp 184 19,(some false)),(bp 113 22,(some false)),ls 1 1 24 17,eZ 25 2,ls 1 1 25 20,eZ 26 3,ls 1 1 26 23] (cq 27 1 4 (bo 2 4 27) (dy 3) .ret)))
def Fc:List Ze:=[(.kS 2 2 (some 4)),(.aW 3)]
def WfL:aU Tryz.prog 114 1 JQ Fc:=fN [(1,1),(2,2),(4,4),(15,1),(18,1),(21,1),(24,1),(25,1),(26,1)] Tryz.func114
def JV:Zc:=aC ee (bm 5 0 1 (o 7 (.build [z0,z0] [(0,(1,5)),(1,(1,6))])) (bo 4 2 7) [] .ret)
def Fh:List Ze:=[(.kS 4 4 (some 2))]
def WfH:aU Tryz.prog 119 2 JV Fh:=fN [(4,4)] Tryz.func119
def I0:Zc:=bZ 3 (.eE 3 [3] 0) 4 (de 5 (.fE 0 1) (bB 4 5) (aN 7 3 5) (ld 8 2) (aI (eI 125 6 7 8) 4 9) .ret)
def Fp:List Ze:=[(.aW 4)]
def WfC:aU Tryz.prog 124 3 I0 Fp:=fN [(3,3)] Tryz.func124
def I6:Zc:=dJ 2 (S (aZ 3 0 (du (.gE (.binOp .eql 85 3 (.const s0) 85) 4)) (bz 4 (al 2))) (de 5 (.raw (.buildSlice 85 0 #[]) 85) (bg 6) (o 7 (.raw (.call (.mk (.builtin .append) #[5,6] #[85,85])) 85)) (eJ 2) [] .ret))
def Fw:List Ze:=[(.aW 2)]
def Wfw:aU Tryz.prog 184 1 I6 Fw:=fN [] Tryz.func184
def JA:Zc:=dA 2 (.eE 2 [2,6,7,12,13,15,16] 0) 4 (aj [bR 5,dB 6 0,cu 1 6,dw 7,o 9 (.gC 3 8 (k 0)),eR (.fE 0 9),aJ 10,dB 12 0,cu 1 12,dw 13,dB 15 0,cu 1 15,dw 16,aO 17,cZ 18,eh 3 14 19,o 21 (.fE 0 20),aJ 21,eI 190 5 11 22,m 4 23] .ret)
def Gb:List Ze:=[(.aW 4)]
def Wfr:aU Tryz.prog 189 2 JA Gb:=fN [(2,2),(6,2),(7,2),(12,2),(13,2),(15,2),(16,2)] Tryz.func189
def JD:Zc:=bZ 4 (.eE 4 [4,19,26] 0) 8 (bJ 9 (S (cO 13 2 10 (bt 0 16 (aa (dz 14) (dm 15) (bQ 14 15)) 1 (aj [(f 19 1 4,none),(au 4 19,none),(dz 21,none),(eD 21,none),(eh 3 20 22,none),(o 24 (.fE 0 23),none),(aJ 24,none),(f 26 1 4,none),(au 4 26,none),(dz 28,none),(aF 29 3 27,none),(o 30 (.fE 0 29),none),(aJ 30,none),(ay .sub 25 31,none),(bR 33,none),(dz 34,none),(eD 34,none),(eh 1 33 35,none),(aJ 36,none),(bR 38,none),(dz 39,none),(cH 40 38,none),(aJ 40,none),(ay .sub 37 41,none),(m 11 32,none),(m 12 42,none)] (dk 43 9 (db 44) (db 45) (bD .mul 44) (az 47 12 (dE 48) (bD .mul 47) (eu 46 49) (aY (bp 320 50) (eu 43 51) 9 52)))) 17 18 10)) (eH 53 9 8)))
def Ge:List Ze:=[(.aW 8)]
def Wfo:aU Tryz.prog 254 4 JD Ge:=fN [(4,4),(19,4),(26,4)] Tryz.func254
def JK:Zc:=aG 3 (.eE 3 [3,11,12,36,37] 0) (o 5 (.eE 5 [5] 2)) (ag (m0 6)) (aK (dS 11 0 3 2 11 (au 3 12) (aO 13) (dy 15) (cX 0 16 16 15 14 1 (ae (ia 17 4 13 15) (bB 4 17) (o 8 (.eC 8 [8,22,24,27,28,30,31] [z0,z0,z0,z0])) (bo 8 4 18) [] (aj [aN 19 3 4,bR 20,aN 21 5 5,fw 22 8,au 8 22,f 24 1 8,au 8 24,f 27 2 8,cu 0 27,au 8 28,f 30 2 8,cu 1 30,au 8 31,(o 26 (.call 355 [19,20,21,23,25]),(some false)),eI 190 26 29 32,o 34 (.not 33)] (cj 34 6))) 35 15 1 15 35)) (dS 36 0 3 3 36 (au 3 37) (aO 38) (dy 40) (cX 2 41 41 40 39 3 (ae (ia 42 3 38 40) (bB 3 42) (eR (.eC 10 [10,46,49,52] [z0,z0,(.bool false)])) (bo 10 3 43) [] (aj [aN 44 3 4,aN 45 5 5,fw 46 10,au 10 46,f 49 1 10,au 10 49,f 52 2 10,au 10 52,(eI 125 44 45 47,(some false)),ay .geq 48 50,o 54 (.gE (.binOp .neq 4 51 53 4) 4)] (cj 54 6))) 55 40 1 40 55)) (dM (m1 6)))
def Ef:List Ze:=[(.aW 6)]
def Wfh:aU Tryz.prog 323 3 JK Ef:=fN [(3,3),(5,5),(8,8),(10,10),(11,3),(12,3),(22,8),(24,8),(27,8),(28,8),(30,8),(31,8),(36,3),(37,3),(46,10),(49,10),(52,10)] Tryz.func323
def JM:Zc:=bZ 3 (.eE 3 [3,15,17,20,22] 1) 4 (cS 8 0 (aN 9 3 2) 10 (.raw (.lookup 425 8 9 true) 359) (dz 7) (cm (dg 11 7) (dh 12 7) (db 5) 6 12) (S (aZ 13 6 (o 14 (.not 13)) (aE 14 (dX 15 0 3 (fw 17 3) (au 3 17) (a8 (ay .mul 16 18) (f 20 1 3) (au 3 20) (f 22 1 3) (au 3 22) (ay .mul 21 23) (eu 19 24) (bp 372 25) (am 5 26)) (dk 27 0 (aN 28 3 2) (di 29) (u (.raw (.mapUpdate 425 27 28 29) 0)) [])))) (eH 30 5 4)))
def Eh:List Ze:=[(.aW 4)]
def Wff:aU Tryz.prog 369 2 JM Eh:=fN [(3,3),(15,3),(17,3),(20,3),(22,3)] Tryz.func369
def IM:Zc:=bZ 1 (.eE 1 [1,6,7,11,12] 0) 2 (aK (dS 6 0 1 2 6 (dN 7) (aO 8) (ag (dx 9 3)) (eS 10 2)) (dS 11 0 1 2 11 (dN 12) (aO 13) (dy 15) (cX 0 16 16 15 14 1 (ae (ia 17 4 13 15) (bB 4 17) (du (.eC 4 [4,20,22,28] [z0,z0,z0,z0])) (bo 4 4 18) [] (S (aV 19 1 4 (fw 20 4) (au 4 20) (f 22 1 4) (aY (au 4 22) (eI 405 19 21 23) 5 24) (fj 25 5 (aI (di 27) 2 27))) (aX 28 2 4 (l 29 4 2 28) (o 30 (.call 404 [29,(k 0),(k 9999)])) (o 31 (.not 30)) [] (eS 31 1)))) 32 15 1 15 32)) (cB 2))
def Ek:List Ze:=[(.aW 2)]
def Bg:aU Tryz.prog 402 1 IM Ek:=fN [(1,1),(4,4),(6,1),(7,1),(11,1),(12,1),(20,4),(22,4),(28,4)] Tryz.func402
def HZ:Zc:=dA 1 (.eE 1 [1] 0) 2 (fa 3 1 4 110 3 (o 5 (.not 4)) (aL 5) (dC (gt 6 7 (.gO 1 (some 4) 1)) (gt 6 8 (.call 40 [7])) (gt 6 9 (.fV .eql 8 (k 0))) (bw 6 9) 2 10) .ret)
def Cl:List Ze:=[(.aW 2)]
def WfX:aU Tryz.prog 35 1 HZ Cl:=fN [(1,1)] Tryz.func35
def IE:Zc:=bZ 1 (.eE 1 [1,5,9] 0) 2 (aK (dX 5 0 1 (o 7 (.call 71 [6,(k 0),(k 20)])) (o 8 (.not 7)) [] (eS 8 1)) (dX 9 1 1 (bp 115 10) (db 3) [] (fj 12 3 (aI (dm 14) 2 14))) (S (cq 15 1 4 (bp 116 15) (am 4 16) (fj 17 4 (aI (fx 19) 2 19))) (cq 20 1 4 (bp 117 20) (am 2 21) .ret)))
def Gk:List Ze:=[(.aW 2)]
def WfS:aU Tryz.prog 40 1 IE Gk:=fN [(1,1),(5,1),(9,1)] Tryz.func40
def II:Zc:=dA 1 (.eE 1 [1,3,8,14] 0) 2 (dY 3 1 1 4 (dx 5 20) (fh 6 (dq 7 (.fH 2 1)) (gf 7 9 (.gO 1 none 8)) (gf 7 10 (.len 9)) (fA (gf 7 11 (.fV .gtr 10 (k 20))) (bA 7 11) (aL 12) (dq 13 (.fH 3 1)) 13 15 (.gO 1 none 14) (gf 13 16 (.len 15)) (gf 13 17 (.fV .gtr 16 (k 20))) (bA 13 17) (am 2 18))) .ret)
def Gp:List Ze:=[(.aW 2)]
def WfP:aU Tryz.prog 110 1 II Gp:=fN [(1,1),(3,1),(8,1),(14,1)] Tryz.func110
def JR:Zc:=bJ 2 (aK (cS 5 0 (aO 5) 7 (.call 71 [6,(k 2),(k 5)]) (o 8 (.not 7)) [] (eS 8 2)) (dd 3 0 12 9 3 (bg 10) (aO 10) (ba 9 11) [] 1 (aK (bm 15 0 3 (aF 17 3 15) (o 18 (.fE 0 17)) (aa (aJ 18) (o 20 (.call 71 [19,(k 0),(k 959)])) (bL 21 (.not 20))) (eS 21 1)) (aj [dm 22,dx 22 0,aL 23,bX 24 0,mt 24 26 3,gt 24 27 (.gC 3 25 26),gt 24 28 (.fE 0 27),gt 24 29 (.ld none 28),mt 24 30 0,mt 24 31 3,gt 24 32 (.fV .sub 31 (k 1)),gt 24 33 (.gC 3 30 32),gt 24 34 (.fE 0 33),gt 24 35 (.ld none 34),gt 24 36 (.fV .leq 29 35),bw 24 36] (eS 37 7)) (bm 38 0 3 (aF 40 3 38) (o 41 (.fE 1 40)) (eG (bB 2 41) (du (.eC 4 [4,47,49] [z0,z0])) (bo 4 2 42)) (aV 43 4 2 (o 44 (.call 72 [43,(k 0),(k 959)])) (o 45 (.not 44)) (aL 45) (ac (dq 46 (.fH 1 4)) (gf 46 48 (.gO 4 none 47)) (gf 46 49 (.fH 0 4)) (gf 46 50 (.gO 4 none 49)) (eG (gf 46 51 (.fV .sub 48 50)) (gf 46 52 (.fV .geq 51 (k 3))) (bA 46 52))) (eS 53 1)))) 13 14 3) (cB 2))
def Fe:List Ze:=[(.aW 2)]
def WfK:aU Tryz.prog 115 1 JR Fe:=fN [(4,4),(47,4),(49,4)] Tryz.func115
def JW:Zc:=aG 2 (.eE 2 [2] 0) eY (dy 5) (S (cq 9 2 4 (bp 112 9) (am 6 10) (fj 11 6 (ec (dG 13) (dW 14) 4 5 13 5 14))) (aV 15 2 4 (o 16 (.build [z0,s0,s0,s0] [(0,(4,15))])) (o 17 (.build [z0,s0,s0,s0,s0] [(0,(4,16))])) (o 7 (.eC 7 [7,19,26,29,30] [z0,s0,s0,s0,s0])) (ag (fB 7 17)) (aK (an 18 1 (fw 19 7) (l 20 7 4 19) (o 21 (.raw (.call (.mk (.value 18) #[20] #[221])) 39)) (am 8 21) (fj 22 8 (ec (dG 24) (fc 25) 4 5 24 5 25))) (aX 26 0 7 (l 27 7 4 26) (bp 187 27) (f 29 4 7) (ag (ls 7 1 29 28)) (dY 30 4 7 31 (ax .eql 32 0) [] (cr 33 (aa (dG 34) (fB 4 34) (ah 5 9))))) (cq 35 7 5 (fB 4 35) (dy 5) .ret))))
def Fi:List Ze:=[(.kS 4 4 (some 5)),(.aW 5)]
def WfG:aU Tryz.prog 120 2 JW Fi:=fN [(2,2),(4,4),(7,7),(19,7),(26,7),(29,7),(30,7)] Tryz.func120
def I1:Zc:=aG 3 (.eE 3 [3,13,14,25,26,32,33] 0) (du (.eE 4 [4,42,45,65] 1)) (dy 6) (bJ 7 (S (bH 0 (S (dS 13 0 3 1 13 (au 3 14) (eJ 16) (ac (eD 16) (eh 3 15 17) (o 19 (.fE 0 18)) (aJ 19) (aD (dv 21) (ba 20 21))) (dH 22 0)) (B 1 (ic 23 24 7)))) (aj [fw 25 3,cu 1 25,au 3 26,eJ 28,aF 29 3 27,o 30 (.fE 0 29),aJ 30,fw 32 3,cu 1 32,au 3 33,eJ 35,eD 35,eh 3 34 36,o 38 (.fE 0 37),aJ 38,m 8 31,m 9 39] (aj [eJ 40,eD 40,o 42 (.hO 1 5 4 41),au 4 42,eJ 44,o 45 (.hO 1 5 4 44),au 4 45,ay .sub 43 46,dv 48,fc 49,dD 48,ay .mul 47 50,dP 52,fc 53,dD 52,m 10 51,m 11 54] (ci 55 10 11 (o 57 (.gE (.binOp .quo 3 55 56 3) 3)) 12 57 [] (S (bm 58 10 11 (o 60 (.gE (.binOp .rem 3 58 59 3) 3)) (fu 60 0) [] (bF 61 (cG 62 12 (cZ 62) 12 63))) (fC 64 7 (o 65 (.hO 1 5 4 64)) (au 4 65) (dE 67) (aI (dT 66) 6 68))))))))
def Fq:List Ze:=[(.aW 6)]
def WfB:aU Tryz.prog 125 3 I1 Fq:=fN [(3,3),(4,4),(13,3),(14,3),(25,3),(26,3),(32,3),(33,3),(42,4),(45,4),(65,4)] Tryz.func125
def I2:Zc:=aG 3 (.eE 3 [3] 0) (o 5 (.eE 5 [5,9,11,14,15,17,18] 2)) (ag (m0 6)) (aj [aN 7 3 4,bR 8,fw 9 5,au 5 9,f 11 1 5,au 5 11,f 14 2 5,cu 0 14,au 5 15,f 17 2 5,cu 1 17,au 5 18,(o 13 (.call 254 [7,8,10,12]),(some false)),eI 71 13 16 19,m 6 20] .ret)
def Fs:List Ze:=[(.aW 6)]
def WfA:aU Tryz.prog 180 3 I2 Fs:=fN [(3,3),(5,5),(9,5),(11,5),(14,5),(15,5),(17,5),(18,5)] Tryz.func180
def E0:Zc:=dA 2 (.eE 2 [2,6] 0) 4 (fC 5 1 (dB 6 1) (dw 6) (aO 7) (aY (cZ 8) (eR (.call 71 [5,(k 0),9])) 4 10))
def Fx:List Ze:=[(.aW 4)]
def Wfv:aU Tryz.prog 185 2 E0 Fx:=fN [(2,2),(6,2)] Tryz.func185
def JB:Zc:=cz 6 (bm 7 1 0 (eT 7) (aL 9) (dC (bX 10 0) (mt 10 12 2) (gt 10 13 (.fV .leq 11 12)) (bw 10 13) 6 14) .ret)
def Gc:List Ze:=[(.aW 6)]
def Wfq:aU Tryz.prog 190 3 JB Gc:=fN [] Tryz.func190
def JE:Zc:=bZ 3 (.eE 3 [3,10,21,27] 0) 6 (bJ 7 (S (bH 0 (S (dX 10 1 3 (eJ 12) (eD 12) (ac (eh 3 11 13) (o 15 (.fE 0 14)) (aJ 15) (dv 17) (bQ 16 17)) (dH 18 0)) (B 1 (ic 19 20 7)))) (aj [f 21 1 3,au 3 21,eJ 23,aF 24 3 22,o 25 (.fE 0 24),aJ 25,f 27 1 3,au 3 27,eJ 29,eD 29,eh 3 28 30,o 32 (.fE 0 31),aJ 32,m 8 26,m 9 33] (aj [(bR 34,none),(eJ 35,none),(cH 36 34,none),(aJ 36,none),(bR 38,none),(eJ 39,none),(eD 39,none),(eh 1 38 40,none),(aJ 41,none),(bR 43,none),(eJ 44,none),(cH 45 43,none),(aJ 45,none),(ay .sub 42 46,none),(dv 48,none),(fc 49,none),(dD 48,none),(ay .mul 47 50,none),(dP 52,none),(fc 53,none),(dD 52,none),(bC 321 51 54,(some true)),(eu 37 55,none),(m 6 56,none)] .ret))))
def Gf:List Ze:=[(.aW 6)]
def Wfn:aU Tryz.prog 255 3 JE Gf:=fN [(3,3),(10,3),(21,3),(27,3)] Tryz.func255
def IP:Zc:=bZ 1 (.eE 1 [1,5,6,10,11] 0) 2 (aK (dS 5 0 1 3 5 (dN 6) (aO 7) (ag (dx 8 3)) (eS 9 2)) (dS 10 0 1 3 10 (dN 11) (aO 12) (dy 14) (cX 0 15 15 14 13 1 (ae (ia 16 3 12 14) (bB 3 16) (du (.eC 4 [4,19,24] [z0,z0,(.bool false)])) (bo 4 3 17) [] (aV 18 1 4 (fw 19 4) (au 4 19) (bC 189 18 20) (ac (o 22 (.not 21)) (aL 22) (dq 23 (.fH 1 4)) (gf 23 25 (.gO 4 none 24)) (eG (gf 23 26 (.call 190 [25,(k 0),(k 959)])) (gf 23 27 (.not 26)) (bA 23 27))) (eS 28 1))) 29 14 1 14 29)) (cB 2))
def El:List Ze:=[(.aW 2)]
def Bh:aU Tryz.prog 403 1 IP El:=fN [(1,1),(4,4),(5,1),(6,1),(10,1),(11,1),(19,4),(24,4)] Tryz.func403
def IA:Zc:=bn 1 (.eE 1 [1,12,24,32] 0) (al 2) (eO 10 (dz 3) (S (dd 4 0 15 11 4 (eZ 12 1) (dN 12) (aO 13) (bQ 11 14) 1 (dJ 5 (S (dd 6 2 21 18 6 (dm 19) (aO 19) (ba 18 20) [] 3 (dX 24 1 1 (fx 26) (aF 27 3 25) (cm (o 28 (.fE 1 27)) (o 29 (.fE 0 28)) (aJ 29) 7 30) (bM 4 39 31 7 (eZ 32 1) (dN 32) (fx 34) (ac (aF 35 3 33) (o 36 (.fE 1 35)) (o 37 (.fE 1 36)) (aJ 37) (ag (ay .leq 31 38))) 5 (dk 42 5 (ff 43) (dm 44) (dW 45) (a8 (cH 46 44) (aJ 46) (o 48 (.raw (.call (.mk (.builtin .append) #[43,47] #[45,45])) 45)) (eJ 49) (o 50 (.fJ 3 1 [z0] [(0,(1,49))])) (o 51 (.raw (.call (.mk (.builtin .append) #[48,50] #[45,45])) 45)) (o 52 (.fJ 45 1 [s0] [(0,(1,51))])) (o 53 (.raw (.call (.mk (.builtin .append) #[42,52] #[57,57])) 57)) (am 5 53))) 40 41 7)) 22 23 6) (.fK (aI (di 54) 3 54)))) 16 17 4) (dJ 8 (S (dd 9 6 58 55 9 (dm 56) (aO 56) (ba 55 57) [] 7 (aj [aN 61 1 4,dm 62,dP 63,cH 64 62,aJ 64,bC 111 61 65] (bF 66 (az 67 8 (dm 68) (dP 69) (cH 70 68) (cm (aJ 70) (o 72 (.fJ 45 1 [s0] [(0,(1,71))])) (o 73 (.raw (.call (.mk (.builtin .append) #[67,72] #[57,57])) 57)) 8 73)))) 59 60 9) (eH 74 8 2)))))
def Gg:List Ze:=[(.aW 2)]
def WfW:aU Tryz.prog 36 1 IA Gg:=fN [(1,1),(12,1),(24,1),(32,1)] Tryz.func36
def IG:Zc:=bZ 2 (.eE 2 [2,5,10,12] 0) 4 (aj [dB 5 1,dw 5,o 7 (.gC 3 6 (k 0)),o 8 (.fE 0 7),aJ 8,dB 10 1,dw 10,dB 12 1,dw 12,aO 13,cZ 14,eh 3 11 15,o 17 (.fE 0 16),aJ 17,bR 20,o 21 (.gE (.convert 89 3 20) 3),(bC 119 9 18,(some false)),bC 118 19 21,m 4 22] .ret)
def Gm:List Ze:=[(.aW 4)]
def WfR:aU Tryz.prog 41 2 IG Gm:=fN [(2,2),(5,2),(10,2),(12,2)] Tryz.func41
def JN:Zc:=dA 2 (.eE 2 [2,8,16,24,32] 0) 4 (aK (dd 5 0 11 7 5 (dB 8 2) (dw 8) (aO 9) (bQ 7 10) 1 (aj [aN 14 2 4,bR 15,dB 16 2,dw 16,di 18,aF 19 4 17,bB 4 19,eI 180 14 15 20,o 22 (.not 21)] (cj 22 4)) 12 13 5) (dd 6 2 27 23 6 (dB 24 3) (dw 24) (aO 25) (bQ 23 26) 3 (aj [aN 30 2 4,bR 31,dB 32 3,dw 32,dW 34,aF 35 3 33,bB 3 35,eI 181 30 31 36,o 38 (.not 37)] (cj 38 4)) 28 29 6) (dM (m1 4)))
def Gq:List Ze:=[(.aW 4)]
def WfO:aU Tryz.prog 111 2 JN Gq:=fN [(2,2),(8,2),(16,2),(24,2),(32,2)] Tryz.func111
def JS:Zc:=bZ 1 (.eE 1 [1,5,10,16] 0) 2 (aK (dY 5 2 1 6 (dx 7 3) [] (eS 8 2)) (dd 3 0 13 9 3 (eZ 10 2) (dN 10) (aO 11) (bQ 9 12) 1 (dX 16 2 1 (dm 18) (aF 19 4 17) (eG (bB 4 19) (du (.eC 4 [4,22,28,33,35,38] [z0,z0,z0,z0])) (bo 4 4 20)) (aK (aV 21 1 4 (fw 22 4) (au 4 22) (bC 185 21 23) (fA (o 25 (.not 24)) (aL 25) (dq 26 (.gO 1 (some 4) 1)) (gf 26 28 (.fH 1 4)) 26 29 (.gO 4 none 28) (gf 26 30 (.call 185 [27,29])) (gf 26 31 (.not 30)) (bA 26 31) []) (eS 32 6)) (dX 33 0 4 (f 35 1 4) (au 4 35) (ag (ay .geq 34 36)) (eS 37 7)) (aX 38 2 4 (l 39 4 2 38) (o 40 (.call 72 [39,(k 0),(k 9999)])) (o 41 (.not 40)) [] (eS 41 1)))) 14 15 3) (cB 2))
def Ff:List Ze:=[(.aW 2)]
def WfJ:aU Tryz.prog 116 1 JS Ff:=fN [(1,1),(4,4),(5,1),(10,1),(16,1),(22,4),(28,4),(33,4),(35,4),(38,4)] Tryz.func116
def JX:Zc:=aG 2 (.raw (.box 3 0) 0) (o 3 (.raw (.box 3 1) 0)) (bL 4 (.lS (.const .nilFunc))) (bn 5 (.raw (.makeFunc (.func 188) #[] #[2,3]) 227) (di 4) .ret)
def Fj:List Ze:=[(.aW 4)]
def WfF:aU Tryz.prog 121 2 JX Fj:=fN [] Tryz.func121
def I3:Zc:=aG 3 (.eE 3 [3] 0) (o 5 (.eE 5 [5,9,12,15] 2)) (ag (m0 6)) (aj [aN 7 3 4,bR 8,fw 9 5,au 5 9,f 12 1 5,au 5 12,f 15 2 5,au 5 15,(eI 255 7 8 10,(some false)),ay .geq 11 13,o 17 (.gE (.binOp .eql 4 14 16 4) 4),m 6 17] .ret)
def Ft:List Ze:=[(.aW 6)]
def Wfz:aU Tryz.prog 181 3 I3 Ft:=fN [(3,3),(5,5),(9,5),(12,5),(15,5)] Tryz.func181
def I7:Zc:=dA 2 (.eE 2 [2,6,11,13] 0) 4 (aj [bR 5,dB 6 1,dw 6,o 8 (.gC 3 7 (k 0)),o 9 (.fE 0 8),aJ 9,dB 11 1,dw 11,dB 13 1,dw 13,aO 14,cZ 15,eh 3 12 16,o 18 (.fE 0 17),aJ 18,eI 71 5 10 19,m 4 20] .ret)
def Fy:List Ze:=[(.aW 4)]
def Wfu:aU Tryz.prog 186 2 I7 Fy:=fN [(2,2),(6,2),(11,2),(13,2)] Tryz.func186
def JC:Zc:=aC ee (bm 5 0 1 (bg 7) (o 8 (.fJ 3 1 [z0] [(0,(1,7))])) (ac (o 9 (.raw (.call (.mk (.builtin .append) #[6,8] #[45,45])) 45)) (bp 257 9) (o 11 (.gE (.call (.mk (.builtin .min) #[5,10] #[3,3])) 3)) (bg 12) (az 13 1 (bg 14) (o 15 (.fJ 3 1 [z0] [(0,(1,14))])) (o 16 (.raw (.call (.mk (.builtin .append) #[13,15] #[45,45])) 45)) (ce (bp 258 16) (o 18 (.gE (.call (.mk (.builtin .max) #[12,17] #[3,3])) 3)) (o 19 (.build [z0,z0] [(0,(1,11)),(1,(1,18))])) (bo 4 2 19)))) .ret)
def Gd:List Ze:=[(.kS 4 4 (some 2))]
def Wfp:aU Tryz.prog 191 2 JC Gd:=fN [(4,4)] Tryz.func191
def JF:Zc:=bn 2 (.raw (.box 221 0) 0) (o 3 (.raw (.box 423 1) 0)) (aG 6 (.raw (.makeMap 425 none) 425) (du (.raw (.alloc 425) 0)) (ag (cJ 425 4 6)) (eQ 5 (.raw (.alloc 426) 0) (bn 7 (.raw (.makeFunc (.func 322) #[] #[2,4,3,5]) 426) (cJ 426 5 7) (.fK (aa (ld 8 5) (o 9 (.build [z0,z0,z0,z0,z0] [])) (bL 10 (.raw (.call (.mk (.value 8) #[9,(k 0)] #[232,3])) 4)))))))
def Dz:List Ze:=[]
def Wfm:aU Tryz.prog 256 2 JF Dz:=fN [] Tryz.func256
def JI:Zc:=bJ 2 (bJ 3 (S (aB 4 1048576 (fo 0 6 (aD (aL 4) (dx 5 0)) 1 (ci 9 3 4 (dT 9) 12 3 (az 13 4 (dT 12) (ay .mul 11 14) (bg 16) (ag (eT 15))) (bF 17 (az 18 3 (fx 19) (dT 18) (m 3 20) []))) (dQ 7 4 (o 8 (.gE (.binOp .quo 3 7 (k 2) 3) 3)) 4 8))) (eH 21 3 2)))
def Ec:List Ze:=[(.aW 2)]
def Wfj:aU Tryz.prog 320 1 JI Ec:=fN [] Tryz.func320
def IQ:Zc:=dA 3 (.eE 3 [3,8,12,14,19] 0) 6 (fC 7 1 (fw 8 3) (au 3 8) (ay .leq 7 9) (fh 10 (gt 11 12 (.fH 0 3)) (gt 11 13 (.gO 3 none 12)) (dZ 11 14) (a8 (gt 11 15 (.gO 3 none 14)) (gt 11 16 (.fV .leq 13 15)) (bw 11 16) (aL 17) (dZ 18 19) (gt 18 20 (.gO 3 none 19)) (mt 18 21 2) (gt 18 22 (.fV .leq 20 21)) (aI (bw 18 22) 6 23))))
def Em:List Ze:=[(.aW 6)]
def Bi:aU Tryz.prog 404 3 IQ Em:=fN [(3,3),(8,3),(12,3),(14,3),(19,3)] Tryz.func404
end
section
variable{j r:Nat}{a b:Bool}{w:Int}
section
variable{P:fP}[Tz P]{H:Hp}
def ND{α:Type}{f:α->Bool}{l:List α}(e:j<l.length):(l.take (j+1)).all f=((l.take j).all f && f l[j]):=by rw[BY e,qBO];simp only[List.all_cons,List.all_nil,Bool.and_true]
def NC{α:Type}{f:α->Bool}{l:List α}(e:j<l.length)(h:f l[j]=false):l.all f=false:=by rw[qDq];exact⟨l[j],iN e,by simp[h]⟩
end
def Co{α:Type}[Enc α](x:α):Zd [x]=Enc.enc x:=by simp[Zd]
section
variable{P:fP}[Tz P]{H:Hp}{d:Option Nat}{next:fG->Hp->Prop}{σ:fG}{x y:Operand}{ty t2:TypeId}{v:Value}
def Cs(d:Nat)(Q:Bool->Bool->Hp->Prop)(g:Bool)(H:Hp)(e:Q (a == b) g H):fZ P.toPQ (Op.equalIn (d+1) 4 (vb a) (vb b)) Q g H:=by simp only[Op.equalIn,Zf,ZA (fU (P:=P) Ph),Zj];exact e
def M5(Q:Bool->Bool->Hp->Prop)(g:Bool)(H:Hp)(e:Q (a == b) g H):fZ P.toPQ (Op.equalIn (9999+1) 4 (vb a) (vb b)) Q g H:=Cs 9999 Q g H e
def Cb(e:σ.get x=some (vb a))(f:σ.get y=some (vb b))(h:next (σ.set d (vb (a == b))) H):(fR.gE (.binOp .eql 4 x y t2) ty).m P d next σ H:=by
 refine Vh (by simp[Op.operands,e,f]) ?_ h;have:execOp (λx=>(σ.get x).getD undef) (fL (.binOp .eql 4 x y t2) ty)=(do let v <-(do eqGuard .eql 4 x y (vb a) (vb b);binOp .eql 4 (vb a) (vb b));pure (.value v)):=by simp[execOp,fL,e,f]
 rw[this];refine Ue λQ g H i=>?_;simp only[eqGuard,Zf,Zj];exact Zf.2 (M5 _ _ _ i)
def Ce(e:σ.get x=some (vb a))(f:σ.get y=some (vb b))(h:next (σ.set d (vb (a != b))) H):(fR.gE (.binOp .neq 4 x y t2) ty).m P d next σ H:=by
 refine Vh (by simp[Op.operands,e,f]) ?_ h;have:execOp (λx=>(σ.get x).getD undef) (fL (.binOp .neq 4 x y t2) ty)=(do let v <-(do eqGuard .neq 4 x y (vb a) (vb b);binOp .neq 4 (vb a) (vb b));pure (.value v)):=by simp[execOp,fL,e,f]
 rw[this];refine Ue λQ g H i=>?_;simp only[eqGuard,Zf,Zj];exact Zf.2 (M5 _ _ _ i)
end
def uK{α:Type}[Enc α]{H f:Hp}{E:TypeId}{e:Value}{l:List α}(h:(l=[]/\e=.slice none 0 0)\/∃b,gL H f E e l b):∃b,gL H f E e l b:=by
 rcases h with⟨rfl,rfl⟩ | h
 ·exact⟨none,.nil _ _ _⟩
 exact h
section
variable{P:fP}{d:Option Nat}{next:fG->Hp->Prop}{σ:fG}{H:Hp}{x y z:Operand}{v:Value}{ty:TypeId}{α:Type}[DecidableEq α]{kv:α->Value}{T K E:TypeId}
def Bz{m:List (α×Int)}{a:α}(t:P.toProgram.underlying T=some (.map K E))(k:MA P.toPQ K kv)(n:H r=some (YR kv m,true))(f:P.still H.gh=false){Q:Unit->Bool->Hp->Prop}{g:Bool}(h:Q () g (H.ins r (YR kv (ZD m a w)))) :
  fZ P.toPQ (Instr.mapUpdate T (.map (some r)) (kv a) (vi w)) Q g H:=by
 simp only[Instr.mapUpdate,Zf,ZA t];refine⟨_,_,⟨f,n⟩,rfl,rfl,?_⟩;rw[YR,fZ];simp only[Zf,Zj];refine k.chk _ _ ?_;refine k.N6 m a ?_;cases hf:YS m a 0 with
 | none=>
  obtain⟨o,i⟩:=Zl9 m a 0 w hf;simp only;refine⟨_,⟨f,n⟩,rfl,rfl,rfl,?_⟩;have:Obj.map ((gF kv 0 m).toArray.push { key:=kv a,val:=vi w,born:=m.length }) (m.length+1)=YR kv (ZD m a w):=by rw[o,YR,Zmu,qAJ];simp
  rw[this];exact h
 | some p=>
  obtain⟨j,u⟩:=p;obtain⟨o,e,i,s,A,B,q,h7⟩:=Zl8 (kv:=kv) m a 0 0 j u w hf;rw[qBl]at i q;simp only[qAM,i,qBC,Option.getD_some,Instr.keyThatStays,Zf,s,k.C6,qBb,Zj];refine⟨_,⟨f,n⟩,rfl,rfl,rfl,?_⟩;have:Obj.map ((gF kv 0 m).toArray.modify j λe=>{ e with key:=kv a,val:=vi w }) m.length=YR kv (ZD m a w):=by rw[YR,h7,<-q];simp
  rw[this];exact h
def Cd{m:List (α×Int)}{a:α}(o:P.toProgram.underlying T=some (.map K E))(k:MA P.toPQ K kv)(f:σ.get x=some (.map (some r)))(g:σ.get y=some (kv a))(i:σ.get z=some (vi w))(n:H r=some (YR kv m,true))(e:P.still H.gh=false)
  (h:next (σ.set d undef) (H.ins r (YR kv (ZD m a w)))):(fR.raw (.mapUpdate T x y z) ty).m P d next σ H:=by
 refine Zid (by simp[Op.operands,f,g,i]) (s:=Instr.mapUpdate T (.map (some r)) (kv a) (vi w)) (by simp[execOp,fL,f,g,i]) ?_;exact Bz o k n e h
end
end
open Go.Z
def EM:Zc:=de 6 (.eE 6 [6] 0) (o 8 (.eE 8 [8] 2)) (eR (.eE 10 [10] 4)) (m0 12) [] (S (fa 20 6 5 18 20 (o 22 (.not 21)) (aL 22) (ac (dq 23 (.gO 8 (some 4) 8)) (gf 23 25 (.call 35 [24])) (gf 23 26 (.not 25)) (bA 23 26) (fh 27 (dq 28 (.gO 8 (some 4) 8)) (gf 28 30 (.call 36 [29])) (gf 28 31 (.len 30)) (aD (gf 28 32 (.fV .eql 31 (k 0))) (bA 28 32)))) (cr 33 (aI (c0 34 10) 12 34))) (eK 36 8 4 (aN 37 10 3) 37 36 (m 35 38) (dC (dg 39 35) (dh 40 35) (o 13 (.eC 13 [13] [z0,s0,s0,s0])) (bo 13 4 39) 14 40) (aK (fj 41 14 (aI (c0 43 10) 12 43)) (aj [aN 44 13 4,aN 45 8 4,aN 46 10 3,(cy 39 45,(some false)),bC 38 44 47,o 49 (.not 48),aL 49,dq 50 (.gO 13 (some 4) 13),gf 50 52 (.call 40 [51]),gf 50 53 (.fV .neq 52 (k 0)),bA 50 53] (cj 54 12)) (eK 55 8 4 (dm 56) 41 55 (m 15 57) [] (eK 59 8 4 (m 60 15) 42 59 (m 58 61) (dC (dg 62 58) (dh 63 58) (o 16 (.eC 16 [16] [z0,z0])) (bo 16 2 62) 17 63) (eK 65 13 4 (m 66 15) 42 65 (m 64 67) (dC (dg 68 64) (dh 69 64) (o 18 (.eC 18 [18] [z0,z0])) (bo 18 2 68) 19 69) (fC 70 17 (ax .eql 70 0) (aL 71) (bX 72 19) (a8 (gt 72 74 (.fV .eql 73 (k 0))) (bw 72 74) (aL 75) (gt 76 77 (.gO 6 (some 5) 6)) (mt 76 78 1) (gt 76 79 (.gO 16 (some 2) 16)) (gt 76 80 (.gO 18 (some 2) 18)) (mt 76 81 5) (ac (gt 76 82 (.call 27 [77,78,79,80,81])) (bw 76 82) (aL 83) (gt 84 85 (.call 10 [])) (aI (bw 84 85) 12 86))))))))))
def IX:List Ze:=[(.aW 12)]
def Dr:aU Tryz.prog 6 6 EM IX:=fN [(6,6),(8,8),(10,10),(13,13),(16,16),(18,18)] Tryz.func6
