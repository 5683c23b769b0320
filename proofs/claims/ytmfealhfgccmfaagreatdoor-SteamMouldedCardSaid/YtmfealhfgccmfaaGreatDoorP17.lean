import Derived.Test.YtmfealhfgccmfaaGreatDoorP06
import Derived.Test.YtmfealhfgccmfaaGreatDoorP07
import Derived.Test.YtmfealhfgccmfaaGreatDoorP16
import Derived.KernelRfl
import Derived.Test.YtmfealhfgccmfaaGreatDoorProg
set_option linter.all false
section
open Go Go.LL
namespace Go.Z
instance (n:Nat):OfNat Operand n:=⟨.tmp n⟩
instance:Coe NI (NI×Option Bool):=⟨λx=>(x,none)⟩
abbrev k(n:Int):Operand:=.const (.int .i64 n)
abbrev k0:Operand:=.const (.bool false)
abbrev k1:Operand:=.const (.bool true)
abbrev z0:Value:=.int .i64 0
abbrev s0:Value:=.slice none 0 0
abbrev o(d:Nat)(x:fR):NI:=⟨none,some d,x⟩
abbrev u(x:fR):NI:=⟨none,none,x⟩
abbrev gf(g d:Nat)(x:fR):NI:=⟨some (g,false),some d,x⟩
abbrev gt(g d:Nat)(x:fR):NI:=⟨some (g,true),some d,x⟩
abbrev m(d a:Nat):NI:=⟨none,some d,.lS (.tmp a)⟩
abbrev mf(g d a:Nat):NI:=⟨some (g,false),some d,.lS (.tmp a)⟩
abbrev mt(g d a:Nat):NI:=⟨some (g,true),some d,.lS (.tmp a)⟩
abbrev mi(d:Nat)(n:Int):NI:=⟨none,some d,.lS (.const (.int .i64 n))⟩
abbrev m0(d:Nat):NI:=⟨none,some d,.lS (.const (.bool false))⟩
abbrev m1(d:Nat):NI:=⟨none,some d,.lS (.const (.bool true))⟩
abbrev x(d a i:Nat):NI:=⟨none,some d,.ext (.tmp a) i⟩
abbrev l(d a b c:Nat):NI:=⟨none,some d,.gO a (some b) c⟩
abbrev ln(d a b:Nat):NI:=⟨none,some d,.gO a none b⟩
abbrev f(d a b:Nat):NI:=⟨none,some d,.fH a b⟩
abbrev ia(d e a b:Nat):NI:=⟨none,some d,.gC e (.tmp a) (.tmp b)⟩
abbrev c0(d f:Nat):NI:=⟨none,some d,.call f []⟩
abbrev c1(d f a:Nat):NI:=⟨none,some d,.call f [.tmp a]⟩
abbrev c2(d f a b:Nat):NI:=⟨none,some d,.call f [.tmp a,.tmp b]⟩
abbrev c3(d f a b c:Nat):NI:=⟨none,some d,.call f [.tmp a,.tmp b,.tmp c]⟩
abbrev ls(a b c x:Nat):NI:=⟨none,none,.tS a b c (.tmp x)⟩
abbrev ld(d a:Nat):NI:=⟨none,some d,.ld none (.tmp a)⟩
abbrev lm(d n a:Nat):NI:=⟨none,some d,.ld (some n) (.tmp a)⟩
abbrev le(d a:Nat):NI:=⟨none,some d,.len (.tmp a)⟩
abbrev b(d:Nat)(p:BinOp)(x y:Nat):NI:=⟨none,some d,.fV p (.tmp x) (.tmp y)⟩
abbrev bk(d:Nat)(p:BinOp)(x:Nat)(n:Int):NI:=⟨none,some d,.fV p (.tmp x) (.const (.int .i64 n))⟩
abbrev po(d x y:Nat):NI:=⟨none,some d,.pick (.tmp x) (.const (.bool true)) (.tmp y)⟩
abbrev pa(d x y:Nat):NI:=⟨none,some d,.pick (.tmp x) (.tmp y) (.const (.bool false))⟩
abbrev st(e x y r:Nat):NI:=⟨none,none,.raw (.store e (.tmp x) (.tmp y)) r⟩
abbrev sq(l:List NI)(c:Zc):Zc:=.seq (.fK l) c
abbrev cr(d:Operand)(l:List NI):Zc:=.cond d (sq l .ret) .skip
abbrev fo(n:Nat)(d:Operand)(h:List NI)(m:Nat)(x y:Zc):Zc:=.block n (.loop (.seq (sq h (.cond d .skip (.exit n))) (.seq (.block m x) y)))
abbrev fp(n:Nat)(d:Operand)(h:List NI)(m:Nat)(x y:Zc):Zc:=.block n (.loop (sq h (.seq (.cond d .skip (.exit n)) (.seq (.block m x) y))))
abbrev ic(a b i:Nat):Zc:=.fK [m a i,bk b .add a 1,m i b]
abbrev S(x y:Zc):Zc:=.seq x y
abbrev B(n:Nat)(x:Zc):Zc:=.block n x
abbrev N(d:Operand)(x y:Zc):Zc:=.cond d x y
abbrev kP(f:Nat)(a:Array Operand)(t:Array TypeId)(r:Nat):fR:=.raw (.call (.mk (.value (.func f)) a t)) r
abbrev lW(n:Int):Operand:=.const (.int .u64 n)
abbrev yP(n:Int):Operand:=.const (.int .u8 n)
abbrev lA(n:Int):Operand:=.const (.int .i32 n)
abbrev nG(d a:Nat):NI:=⟨none,some d,.raw (.nilCheck (.tmp a)) 0⟩
abbrev sH(a b c d:Nat):fR:=.raw (.convert a b (.tmp c)) d
abbrev LD:=List (NI×Option Bool)
abbrev aa(a c:NI)(d:List NI):List NI:=a :: (c :: d)
abbrev ac(a c d e:NI)(g:List NI):List NI:=aa a c (aa d e g)
abbrev ae(a c d e:NI)(g:List NI)(h:Zc):Zc:=sq (ac a c d e g) h
abbrev af(a c:NI)(d:List NI)(e:Zc):Zc:=sq (aa a c d) e
abbrev ag(a:NI):List NI:=a :: []
abbrev ah(a:Nat)(c:Int):List NI:=ag (mi a c)
abbrev aj(a:LD)(c:Zc):Zc:=S (.drawn a) c
abbrev al(a:Nat):NI:=o a (.lS (.const s0))
abbrev am(a c:Nat):List NI:=ag (m a c)
abbrev an(a c:Nat)(d e g:NI)(h:List NI)(i:Zc):Zc:=ae (m a c) d e g h i
abbrev ao(a c:Nat)(d:NI)(e:List NI)(g:Zc):Zc:=af (m a c) d e g
abbrev au(c d:Nat):NI:=ln (d+1) c d
abbrev ax(c:BinOp)(d:Nat)(e:Int):NI:=bk (d+1) c d e
abbrev ay(c:BinOp)(d e:Nat):NI:=b (e+1) c d e
abbrev az(a c:Nat)(d e g:NI)(h:List NI):List NI:=ac (m a c) d e g h
abbrev aB(a:Nat)(c:Int)(d:Zc):Zc:=sq (ah a c) d
abbrev aC(a:NI)(c:Zc):Zc:=sq (ag a) c
abbrev aD(a c:NI):List NI:=aa a c []
abbrev aE(a:Operand)(c:Zc):Zc:=N a c .skip
abbrev aF(a c d:Nat):NI:=ia a c d (d+1)
abbrev aG(a:Nat)(c:fR)(d:NI)(e:List NI)(g:Zc):Zc:=af (o a c) d e g
abbrev aI(a:NI)(c d:Nat):List NI:=aD a (m c d)
abbrev aJ(c:Nat):NI:=ld (c+1) c
abbrev aK(a c d:Zc):Zc:=S a (S c d)
abbrev aL(c:Nat):NI:=m (c+1) c
abbrev aN(a c d:Nat):NI:=l a c d c
abbrev aO(c:Nat):NI:=le (c+1) c
abbrev aP(a:Nat):NI:=o a (.lS (.const (.int .i64 (Int.negSucc 0))))
abbrev aS(a c d e:Nat)(g h:NI)(i:List NI)(j:Zc):Zc:=an a c (m d e) g h i j
abbrev aV(a c d:Nat)(e g h:NI)(i:List NI)(j:Zc):Zc:=ae (aN a c d) e g h i j
abbrev aX(a c d:Nat)(e g h:NI)(i:List NI)(j:Zc):Zc:=ae (f a c d) e g h i j
abbrev aY(a c:NI)(d e:Nat):List NI:=aa a c (am d e)
abbrev aZ(a c:Nat)(d:NI)(g:Zc):Zc:=ao a c d [] g
abbrev a8(a c d e g h i j:NI)(n:List NI):List NI:=ac a c d e (ac g h i j n)
abbrev ba(c d:Nat):NI:=ay .lss c d
abbrev bg(a:Nat):NI:=m a 0
abbrev bi(c:Nat)(d:Int):NI:=ax .sub c d
abbrev bj(a:Operand)(c:Nat)(d:Int):Zc:=cr a (ah c d)
abbrev bm(a c e:Nat)(g h:NI)(i:List NI)(j:Zc):Zc:=aS a c (a+1) e g h i j
abbrev bn(a:Nat)(c:fR)(d:NI)(g:Zc):Zc:=aG a c d [] g
abbrev bo(a c e:Nat):NI:=ls a c a e
abbrev bp(c d:Nat):NI:=c1 (d+1) c d
abbrev bq(a c d e g:Nat)(h i:NI)(j:List NI)(n:Zc):Zc:=aX a c d (au e g) h i j n
abbrev bt(a:Nat)(c:Operand)(d:List NI)(e:Nat)(g:Zc)(h i j:Nat):Zc:=fo a c d e g (ic h i j)
abbrev bu(a:Nat)(c:Operand)(d:List NI)(e:Nat)(g:Zc)(h:List NI):Zc:=fp a c d e g (.fK h)
abbrev bw(c d:Nat):NI:=pa (d+1) c d
abbrev bx(a c:Nat)(d:BinOp)(e:Nat)(g:Int)(h:Zc):Zc:=aZ a c (ax d e g) h
abbrev bz(a:Operand)(c:NI):Zc:=cr a (ag c)
abbrev bA(c d:Nat):NI:=po (d+1) c d
abbrev bB(c d:Nat):NI:=lm (d+1) c d
abbrev bC(c d e:Nat):NI:=c2 (e+1) c d e
abbrev bD(a:BinOp)(c:Nat):NI:=ay a c (c+1)
abbrev bE(a:Nat):NI:=o a (.raw (.call (.mk (.value (.func 272)) #[(.const (.string (.mk #[115,121,110,99,58,32,87,97,105,116,71,114,111,117,112,46,65,100,100,32,99,97,108,108,101,100,32,102,114,111,109,32,105,110,115,105,100,101,32,97,110,100,32,111,117,116,115,105,100,101,32,115,121,110,99,116,101,115,116,32,98,117,98,98,108,101])))] #[9])) 0)
abbrev bF(a:Operand)(c:List NI):Zc:=aE a (.fK c)
abbrev bG(c:Nat)(d:Int):NI:=ax .add c d
abbrev bH(a:Nat)(c:Zc):Zc:=B a (.loop c)
abbrev bI(a:Nat):NI:=o a (.build [z0,z0,z0,s0,s0] [])
abbrev bJ(a:Nat)(d:Zc):Zc:=aB a 0 d
abbrev bK(a d:Nat)(e:Int):NI:=bk a .add d e
abbrev bL(a:Nat)(c:fR):List NI:=ag (o a c)
abbrev bM(a:Nat)(c:Operand)(d e:Nat)(g h i:NI)(j:List NI)(n:Nat)(p:Zc)(q r s:Nat):Zc:=bt a c (az d e g h i j) n p q r s
abbrev bN(a:Nat):NI:=o a (.raw (.makeInterface 9 (.const (.string (.mk #[115,121,110,99,58,32,87,97,105,116,71,114,111,117,112,32,109,105,115,117,115,101,58,32,65,100,100,32,99,97,108,108,101,100,32,99,111,110,99,117,114,114,101,110,116,108,121,32,119,105,116,104,32,87,97,105,116])))) 20)
abbrev bO(a c e:Nat)(g:Int)(h:Zc):Zc:=bx a c .neq e g h
abbrev bP(a c:Nat)(d:Int)(e g:Nat):List NI:=aI (bK a c d) e g
abbrev bQ(a c:Nat):List NI:=ag (ba a c)
abbrev bR(a:Nat):NI:=m a 1
abbrev bT(a d e:Nat):NI:=b a .lss d e
abbrev bU(a:Nat)(c:Operand)(d:NI)(e:Nat)(g:Zc)(h:List NI):Zc:=bu a c (ag d) e g h
abbrev bV(a c d:Nat)(e:Int)(g:Operand)(h:List NI):Zc:=bO a c d e (cr g h)
abbrev bW(a c d e:Nat)(g:Zc):Zc:=aZ a c (m d e) g
abbrev bX(a d:Nat):NI:=mt a (a+1) d
abbrev bY(a:Nat):NI:=mi a 0
abbrev bZ(a:Nat)(c:fR)(d:Nat)(e:Zc):Zc:=bn a c (bY d) e
abbrev ce(a c d e:NI):List NI:=ac a c d e []
abbrev cf(a:Nat)(c:Operand)(d:NI)(e:Nat)(g:Zc)(h i:Nat)(j:Int)(n p:Nat):Zc:=bU a c d e g (bP h i j n p)
abbrev ci(a c d:Nat)(e:NI)(g h:Nat)(i:List NI)(j:Zc):Zc:=bm a c d e (m g h) i j
abbrev cj(a:Operand)(c:Nat):Zc:=bz a (m0 c)
abbrev cm(a c d:NI)(e g:Nat):List NI:=ce a c d (m e g)
abbrev cq(a c d:Nat)(e:NI)(g:List NI)(h:Zc):Zc:=af (aN a c d) e g h
abbrev cu(c d:Nat):NI:=f (d+1) c d
abbrev cx(a c:Nat)(d:NI)(e g:Nat)(h:Zc):Zc:=ao a c d (am e g) h
abbrev cy(a c:Nat):NI:=bC a c (c+1)
abbrev cz(a:Nat)(c:Zc):Zc:=aC (m0 a) c
abbrev cB(a:Nat):Zc:=bJ a .ret
abbrev cD(a:Operand)(c:Zc)(d:Nat):Zc:=N a c (.exit d)
abbrev cF(a:Nat):List NI:=bL a (.raw (.call (.mk (.value (.func 359)) #[(.const (.string (.mk #[115,121,110,99,58,32,105,110,99,111,110,115,105,115,116,101,110,116,32,109,117,116,101,120,32,115,116,97,116,101])))] #[9])) 0)
abbrev cG(a c:Nat)(d:NI)(e g:Nat):List NI:=aY (m a c) d e g
abbrev cH(a d:Nat):NI:=aF a 1 d
abbrev cJ(a c d:Nat):NI:=st a c d 0
abbrev cO(a c d:Nat)(g:Zc):Zc:=bW a c d a g
abbrev cS(a c:Nat)(d:NI)(e:Nat)(g:fR)(h:NI)(i:List NI)(j:Zc):Zc:=an a c d (o e g) h i j
abbrev cV(a c d e:Nat)(h i:NI)(j:List NI)(n:Zc):Zc:=bq a c d e a h i j n
abbrev cX(a:Nat)(c:Operand)(d e g h:Nat)(i:Zc)(j n:Nat)(p:Int)(q r:Nat):Zc:=cf a c (bT d e g) h i j n p q r
abbrev cY(a d:Nat):NI:=mf a (a+1) d
abbrev cZ(a:Nat):NI:=bi a 1
abbrev db(a:Nat):NI:=m a 11
abbrev dd(a c:Nat)(d:Operand)(e g:Nat)(h i j:NI)(n:List NI)(p:Nat)(q:Zc)(r s t:Nat):Zc:=bJ a (bM c d e g h i j n p q r s t)
abbrev de(a:Nat)(c:fR)(d e g:NI)(h:List NI)(i:Zc):Zc:=ae (o a c) d e g h i
abbrev dg(a c:Nat):NI:=x a c 0
abbrev dh(a c:Nat):NI:=x a c 1
abbrev di(a:Nat):NI:=m a 5
abbrev dk(a c:Nat)(d e g:NI)(h:List NI):Zc:=.fK (az a c d e g h)
abbrev dm(a:Nat):NI:=m a 3
abbrev dq(a:Nat)(d:fR):NI:=gf a (a+1) d
abbrev du(c:fR):NI:=o 4 c
abbrev dv(a:Nat):NI:=m a 2
abbrev dw(c:Nat):NI:=au 2 c
abbrev dx(c:Nat)(d:Int):NI:=ax .gtr c d
abbrev dy(a:Nat):List NI:=ah a 0
abbrev dz(a:Nat):NI:=m a 10
abbrev dA(a:Nat)(c:fR)(d:Nat)(e:Zc):Zc:=bn a c (m0 d) e
abbrev dB(a c:Nat):NI:=f a c 2
abbrev dC(a c d e:NI)(g h:Nat):List NI:=ac a c d e (am g h)
abbrev dD(c:Nat):NI:=bD .sub c
abbrev dE(a:Nat):NI:=m a 12
abbrev dG(a:Nat):NI:=o a (.build [z0,s0,s0,s0,s0] [])
abbrev dH(a:Operand)(d:Nat):Zc:=cD a .skip d
abbrev dI(a:Nat):NI:=o a (.eE 3 [3] 1)
abbrev dJ(a:Nat)(c:Zc):Zc:=aC (al a) c
abbrev dM(a:NI):Zc:=aC a .ret
abbrev dN(c:Nat):NI:=au 1 c
abbrev dO(a c:Nat)(d:NI)(e:List NI)(g h:Zc):Zc:=S (ao a c d e g) h
abbrev dP(a:Nat):NI:=m a 9
abbrev dQ(a c:Nat)(d:NI)(e g:Nat):Zc:=.fK (cG a c d e g)
abbrev dR(a:Nat):NI:=o a (.fJ 3 3 [z0,z0,z0] [(0,(1,(k 4))),(1,(1,(k 2))),(2,(1,(k 3)))])
abbrev dS(a c d e g:Nat)(h i:NI)(j:List NI)(n:Zc):Zc:=aX a c d (cu e g) h i j n
abbrev dT(c:Nat):NI:=bD .add c
abbrev dU(a c d:Nat)(e:Int)(h:List NI):Zc:=bV a c d e (.tmp (a+1)) h
abbrev dV(a c:Nat)(e:Int)(g:List NI):Zc:=dU a c a e g
abbrev dW(a:Nat):NI:=m a 6
abbrev dX(a c d:Nat)(g h:NI)(i:List NI)(j:Zc):Zc:=cV a c d d g h i j
abbrev dY(a c d e:Nat)(g:NI)(h:List NI)(i:Zc):Zc:=dX a c d (aO e) g h i
abbrev dZ(a c:Nat):NI:=gt a c (.fH 1 3)
abbrev ec(a c:NI)(d e g h i:Nat):List NI:=cm a c (bo d e g) h i
abbrev ee:NI:=du (.eC 4 [4] [z0,z0])
abbrev eh(c d e:Nat):NI:=ia (e+1) c d e
abbrev eu(c d:Nat):NI:=ay .add c d
abbrev ez(a:LD)(c d:Zc):Zc:=S (aj a c) d
abbrev eD(a:Nat):NI:=bG a 1
abbrev eF(a:Nat):NI:=o a (.build [z0,z0] [])
abbrev eG(a c d:NI):List NI:=aa a c (ag d)
abbrev eH(a c d:Nat):Zc:=cO a c d .ret
abbrev eI(c d e g:Nat):NI:=c3 (g+1) c d e g
abbrev eJ(a:Nat):NI:=m a 7
abbrev eK(a c d:Nat)(e:NI)(g h:Nat)(i:NI)(j:List NI)(n:Zc):Zc:=aV a c d e (cy g h) i j n
abbrev eM(c d:Nat):NI:=cJ 258 c d
abbrev eO(a:Nat)(d:NI)(e:Zc):Zc:=bn a (.fJ 45 1 [s0] [(0,(1,(.const s0)))]) d e
abbrev eP:NI:=u (.build [s0,z0,z0] [(0,(3,11))])
abbrev eQ(a:Nat)(c:fR)(d:Zc):Zc:=aC (o a c) d
abbrev eR(c:fR):NI:=o 10 c
abbrev eS(a:Operand)(d:Int):Zc:=bj a 2 d
abbrev eT(c:Nat):NI:=bD .leq c
abbrev eU(a c d e g:Nat):Zc:=dQ a c (cZ d) e g
abbrev eV(a c:Nat)(d:NI)(e:Nat)(h:Zc):Zc:=cx a c d e (a+1) h
abbrev eX(a:Nat):NI:=o a (.build [z0,z0,z0,z0] [])
abbrev eY:NI:=du (.eC 4 [4] [z0,s0,s0,s0,s0])
abbrev eZ(a c:Nat):NI:=f a c 1
abbrev fa(a c d e g:Nat)(h i:NI)(j:List NI)(n:Zc):Zc:=aV a c d (bp e g) h i j n
abbrev fc(a:Nat):NI:=m a 8
abbrev ff(a:Nat):NI:=o a (.raw (.buildSlice 45 0 #[]) 45)
abbrev fg:NI:=u (.build [z0] [(0,(1,(k 1)))])
abbrev fh(c:Nat)(d e g:NI)(h:List NI):List NI:=az (c+1) c d e g h
abbrev fi(a:Nat):NI:=o a (.eC 8 [8] [z0,z0,z0,s0,s0])
abbrev fj(a c:Nat)(e:List NI):Zc:=dV a c 0 e
abbrev fq(a d:Nat):NI:=aF a 8 d
abbrev fu(c:Nat)(d:Int):NI:=ax .lss c d
abbrev fw(a d:Nat):NI:=f a 0 d
abbrev fx(a:Nat):NI:=m a 4
abbrev fA(a c d e:NI)(g h:Nat)(i:fR)(j n p:NI)(q:List NI):List NI:=a8 a c d e (gf g h i) j n p q
abbrev fB(a d:Nat):NI:=bo a 5 d
abbrev fC(a c:Nat)(d e g:NI)(h:List NI):Zc:=an a c d e g h .ret
end Go.Z
end
section
open Go Go.LL
namespace Go.LL
def fN{P:Program}{f:FuncId}{k:Nat}{n:Zc}{b:List Ze}{fn:Func}(L:List (Nat×Nat))(h:P.funcs[f]? = some fn)(c:fn.body.bind (Yg P L fn.ntmps ⟨true,fn.norace⟩)=some n:=by kernel_rfl)(e:Oy P L fn.results.toList=some b:=by kernel_rfl)(g:((L.all λp=>decide (k<=p.1)) && decide (k<=fn.ntmps) && (!(tI L) || fn.norace))=true:=by kernel_rfl):aU P f k n b:=⟨fn,L,h,c,e,g⟩
end Go.LL
end
open Go Go.LL Go Go.LL
namespace Go.Proofs
section
open Go.Z
def Zfm:Zc:=S (aE k1 (S (bx 9 1 .lss 9 0 (bF 10 (aa (bg 11) (o 12 (sH 382 384 11 384)) (bL 13 (kP 267 #[12] #[384] 0))))) (eQ 14 (kP 268 #[] #[] 0) (.fK (ag (u (.raw (.defer (.mk (.value (.func 269)) #[] #[])) 0))))))) (cz 4 (S (eQ 15 (kP 270 #[] #[] 4) (aE 15 (aZ 16 0 (o 17 (kP 271 #[16] #[382] 385)) (B 0 (af (bk 19 .eql 17 0) (m 18 19) [] (N 18 .skip (af (bk 21 .eql 17 2) (m 20 21) [] (N 20 (.fK (bL 22 (.raw (.call (.mk (.value (.func 272)) #[(.const (.string (.mk #[115,121,110,99,58,32,87,97,105,116,71,114,111,117,112,46,65,100,100,32,99,97,108,108,101,100,32,102,114,111,109,32,109,117,108,116,105,112,108,101,32,115,121,110,99,116,101,115,116,32,98,117,98,98,108,101,115])))] #[9])) 0))) (af (bk 24 .eql 17 1) (m 23 24) [] (aE 23 (aC (m1 4) (cS 25 0 (nG 26 25) 27 (.fE 0 26) (o 28 (.call 273 [27,(lW 2147483648)])) (am 5 28) (an 29 5 (o 30 (.fV .neq 29 (lW 0))) (aL 30) (bX 31 5) (eG (gt 31 33 (.raw (.binOp .and 335 32 (lW 2147483648) 335) 335)) (gt 31 34 (.fV .eql 33 (lW 0))) (bw 31 34)) (bF 35 (ag (bE 36)))))))))))))))) (cS 37 0 (nG 38 37) 39 (.fE 0 38) (bR 40) (cm (o 41 (sH 3 335 40 335)) (o 42 (.raw (.binOp .shl 335 41 (lW 32) 286) 335)) (bC 274 39 42) 6 43) (S (cS 44 6 (o 45 (.raw (.binOp .and 335 44 (lW 2147483648) 335) 335)) 46 (.fV .neq 45 (lW 0)) (aL 46) (eG (bX 47 4) (gt 47 49 (.not 48)) (bw 47 49)) (bF 50 (ag (bE 51)))) (cS 52 6 (o 53 (.raw (.binOp .shr 335 52 (lW 32) 286) 335)) 54 (sH 335 21 53 21) (m 7 54) [] (cS 55 6 (o 56 (.raw (.binOp .and 335 55 (lW 2147483647) 335) 335)) 57 (sH 335 328 56 328) (m 8 57) [] (aK (ae (m1 58) (bX 58 1) (gt 58 60 (.fV .gtr 59 (k 0))) (bw 58 60) (fh 61 (bX 62 7) (mt 62 64 1) (gt 62 65 (sH 3 21 64 21)) (aD (gt 62 66 (.fV .eql 63 65)) (bw 62 66))) (bF 67 (az 68 0 (nG 69 68) (o 70 (.fE 1 69)) (o 71 (sH 389 384 70 384)) (bL 72 (kP 275 #[71] #[384] 0))))) (aZ 73 7 (o 74 (.fV .lss 73 (lA 0))) (bF 74 (aD (o 75 (.raw (.makeInterface 9 (.const (.string (.mk #[115,121,110,99,58,32,110,101,103,97,116,105,118,101,32,87,97,105,116,71,114,111,117,112,32,99,111,117,110,116,101,114])))) 20)) (u (.raw (.panic 75) 0))))) (aK (an 76 8 (o 77 (.fV .neq 76 (.const (.int .u32 0)))) (aL 77) (bX 78 1) (a8 (gt 78 80 (.fV .gtr 79 (k 0))) (bw 78 80) (aL 81) (bX 82 7) (mt 82 84 1) (gt 82 85 (sH 3 21 84 21)) (gt 82 86 (.fV .eql 83 85)) (bw 82 86) []) (bF 87 (aD (bN 88) (u (.raw (.panic 88) 0))))) (an 89 7 (o 90 (.fV .gtr 89 (lA 0))) (aL 90) (cY 91 8) (aD (gf 91 93 (.fV .eql 92 (.const (.int .u32 0)))) (bA 91 93)) (aE 94 .ret)) (S (cS 95 0 (nG 96 95) 97 (.fE 0 96) (bp 276 97) (aD (dW 99) (bD .neq 98)) (bF 100 (aD (bN 101) (u (.raw (.panic 101) 0))))) (cS 102 0 (nG 103 102) 104 (.fE 0 103) (o 105 (.call 277 [104,(lW 0)])) [] (S (sq (am 106 4) (bF 106 (aD (bg 107) (o 108 (kP 278 #[107] #[382] 0))))) (fo 1 110 (aD (fc 109) (o 110 (.fV .neq 109 (.const (.int .u32 0))))) 2 (dk 113 0 (nG 114 113) (o 115 (.fE 1 114)) (o 116 (kP 279 #[115,k0,(k 0)] #[389,4,3] 0)) []) (dQ 111 8 (o 112 (.raw (.binOp .sub 328 111 (.const (.int .u32 1)) 328) 328)) 8 112)))))))))))))
def ZrV:List Ze:=[]
def Zm0:aU Tryz.prog 207 2 Zfm ZrV:=fN [(999999,0)] Tryz.func207
def Zkr:Zc:=.fK (aD (bg 2) (o 3 (.call 207 [2,(.const (.int .i64 (Int.negSucc 0)))])))
def ZrI:List Ze:=[]
def Zyj:aU Tryz.prog 209 1 Zkr ZrI:=fN [(999999,0)] Tryz.func209
def Zkg:Zc:=dk 2 0 (nG 3 2) (du (.fE 0 3)) (bp 280 4) []
def Zrx:List Ze:=[]
def Zx8:aU Tryz.prog 210 1 Zkg Zrx:=fN [(999999,0)] Tryz.func210
def Zj9:Zc:=dk 2 0 (nG 3 2) (du (.fE 0 3)) (bp 281 4) []
def Zrp:List Ze:=[]
def Zx1:aU Tryz.prog 211 1 Zj9 Zrp:=fN [(999999,0)] Tryz.func211
def Zj3:Zc:=S (bF k1 (bL 7 (kP 268 #[] #[] 0))) (bH 0 (B 1 (cS 8 0 (nG 9 8) 10 (.fE 0 9) (bp 276 10) (am 2 11) (cS 12 2 (o 13 (.raw (.binOp .shr 335 12 (lW 32) 286) 335)) 14 (sH 335 21 13 21) (m 3 14) [] (cS 15 2 (o 16 (.raw (.binOp .and 335 15 (lW 2147483647) 335) 335)) 17 (sH 335 328 16 328) (m 4 17) [] (S (aZ 18 3 (o 19 (.fV .eql 18 (lA 0))) (aE 19 (aK (aE k1 (eQ 20 (kP 269 #[] #[] 0) (.fK (aa (bg 21) (o 22 (sH 382 384 21 384)) (bL 23 (kP 283 #[22] #[384] 0)))))) (an 24 4 (o 25 (.fV .eql 24 (.const (.int .u32 0)))) (aL 25) (bX 26 2) (ac (gt 26 28 (.raw (.binOp .and 335 27 (lW 2147483648) 335) 335)) (gt 26 29 (.fV .neq 28 (lW 0))) (bw 26 29) (aL 30) (eG (bX 31 0) (gt 31 33 (kP 284 #[32] #[382] 4)) (bw 31 33))) (aE 34 (cS 35 0 (nG 36 35) 37 (.fE 0 36) (dv 38) (bL 39 (.call 285 [37,38,(lW 0)])) (bF 39 (aD (bg 40) (o 41 (kP 278 #[40] #[382] 0))))))) .ret))) (cS 42 0 (nG 43 42) 44 (.fE 0 43) (dv 45) (eG (dv 46) (o 47 (.fV .add 46 (lW 1))) (eI 285 44 45 47)) (aE 48 (S (ae (m1 49) (bX 49 4) (gt 49 51 (.fV .eql 50 (.const (.int .u32 0)))) (bw 49 51) [] (bF 52 (az 53 0 (nG 54 53) (o 55 (.fE 1 54)) (o 56 (sH 389 384 55 384)) (bL 57 (kP 286 #[56] #[384] 0))))) (cz 5 (S (cS 58 2 (o 59 (.raw (.binOp .and 335 58 (lW 2147483648) 335) 335)) 60 (.fV .neq 59 (lW 0)) (aL 60) (aD (gt 61 62 (kP 270 #[] #[] 4)) (bw 61 62)) (aE 63 (aK (bF k1 (bL 64 (kP 269 #[] #[] 0))) (aZ 65 0 (o 66 (kP 284 #[65] #[382] 4)) (bF 66 (ag (m1 5)))) (bF k1 (bL 67 (kP 268 #[] #[] 0)))))) (cS 68 0 (nG 69 68) 70 (.fE 1 69) (di 71) (bL 72 (kP 287 #[70,71] #[389,4] 0)) (cS 73 0 (nG 74 73) 75 (.fE 0 74) (bp 276 75) (aI (o 77 (.fV .neq 76 (lW 0))) 6 77) (aK (aE k1 (eQ 78 (kP 269 #[] #[] 0) (.fK (aa (bg 79) (o 80 (sH 382 384 79 384)) (bL 81 (kP 283 #[80] #[384] 0)))))) (sq (am 82 6) (bF 82 (aD (o 83 (.raw (.makeInterface 9 (.const (.string (.mk #[115,121,110,99,58,32,87,97,105,116,71,114,111,117,112,32,105,115,32,114,101,117,115,101,100,32,98,101,102,111,114,101,32,112,114,101,118,105,111,117,115,32,87,97,105,116,32,104,97,115,32,114,101,116,117,114,110,101,100])))) 20)) (u (.raw (.panic 83) 0))))) .ret))))))))))))))
def Zrj:List Ze:=[]
def ZxV:aU Tryz.prog 213 1 Zj3 Zrj:=fN [(999999,0)] Tryz.func213
def Zjm:Zc:=aC (du (.lS (lW 0))) (cS 5 0 (nG 6 5) 7 (.fE 0 6) (bR 8) (aI (o 9 (kP 329 #[7,8] #[434,335] 335)) 4 9) .ret)
def Zqy:List Ze:=[(.aW 4)]
def Zxe:aU Tryz.prog 274 2 Zjm Zqy:=fN [(999999,0)] Tryz.func274
def Zjl:Zc:=eQ 2 (.lS (lW 0)) (cS 3 0 (nG 4 3) 5 (.fE 0 4) (o 6 (kP 330 #[5] #[434] 335)) (am 2 6) .ret)
def Zqx:List Ze:=[(.aW 2)]
def Zxd:aU Tryz.prog 276 1 Zjl Zqx:=fN [(999999,0)] Tryz.func276
def Zjk:Zc:=dk 4 0 (nG 5 4) (o 6 (.fE 0 5)) (bR 7) (bL 8 (kP 331 #[6,7] #[434,335] 0))
def Zqw:List Ze:=[]
def Zxc:aU Tryz.prog 277 2 Zjk Zqw:=fN [(999999,0)] Tryz.func277
def Zjj:Zc:=eQ 2 (kP 268 #[] #[] 0) (S (cS 3 0 (nG 4 3) 5 (.fE 0 4) (o 6 (kP 332 #[5,(lA 0),(lA 1)] #[439,21,21] 4)) [] (aE 6 (S (aE k1 (eQ 7 (kP 269 #[] #[] 0) (.fK (aa (bg 8) (o 9 (sH 437 384 8 384)) (bL 10 (kP 283 #[9] #[384] 0)))))) .ret))) (.fK (aD (bg 11) (bp 333 11))))
def Zqv:List Ze:=[]
def Zxb:aU Tryz.prog 280 1 Zjj Zqv:=fN [(999999,0)] Tryz.func280
def Zji:Zc:=S (aE k1 (cS 3 0 (nG 4 3) 5 (.fE 0 4) (o 6 (.lV (.load 21 5) 21)) [] (ao 7 0 (o 8 (sH 437 384 7 384)) (bL 9 (kP 267 #[8] #[384] 0)) (.fK (bL 10 (kP 268 #[] #[] 0)))))) (cS 11 0 (nG 12 11) 13 (.fE 0 12) (o 14 (kP 334 #[13,(.const (.int .i32 (Int.negSucc 0)))] #[439,21] 21)) (am 2 14) (S (aZ 15 2 (o 16 (.fV .neq 15 (lA 0))) (bF 16 (eG (bg 17) (dv 18) (cy 335 17)))) (.fK (bL 20 (kP 269 #[] #[] 0)))))
def ZhQ:List Ze:=[]
def Zxa:aU Tryz.prog 281 1 Zji ZhQ:=fN [(999999,0)] Tryz.func281
def Zjh:Zc:=cz 6 (cS 7 0 (nG 8 7) 9 (.fE 0 8) (bR 10) (cG 11 2 (o 12 (kP 336 #[9,10,11] #[434,335,335] 4)) 6 12) .ret)
def Zqu:List Ze:=[(.aW 6)]
def Zw9:aU Tryz.prog 285 3 Zjh Zqu:=fN [(999999,0)] Tryz.func285
def Zi3:Zc:=bJ 2 (cz 3 (cz 4 (bJ 5 (cS 10 0 (nG 11 10) 12 (.fE 0 11) (o 13 (.lV (.load 21 12) 21)) (am 6 13) (S (bH 0 (B 1 (S (cS 14 6 (o 15 (.raw (.binOp .and 21 14 (lA 5) 21) 21)) 16 (.fV .eql 15 (lA 1)) (aL 16) (eG (bX 17 5) (gt 17 19 (kP 357 #[18] #[3] 4)) (bw 17 19)) (aE 20 (S (an 21 4 (o 22 (.not 21)) (aL 22) (bX 23 6) (a8 (gt 23 25 (.raw (.binOp .and 21 24 (lA 2) 21) 21)) (gt 23 26 (.fV .eql 25 (lA 0))) (bw 23 26) (aL 27) (bX 28 6) (gt 28 30 (.raw (.binOp .shr 21 29 (lW 3) 286) 21)) (gt 28 31 (.fV .neq 30 (lA 0))) (bw 28 31) (fh 32 (bX 33 0) (gt 33 35 (.raw (.nilCheck 34) 0)) (gt 33 36 (.fE 0 35)) (ac (mt 33 37 6) (mt 33 38 6) (gt 33 39 (.raw (.binOp .or 21 38 (lA 2) 21) 21)) (gt 33 40 (kP 332 #[36,37,39] #[439,21,21] 4)) (ag (bw 33 40))))) (bF 41 (ag (m1 4)))) (eQ 42 (kP 358 #[] #[] 0) (eV 43 5 (eD 43) 5 (cS 45 0 (nG 46 45) 47 (.fE 0 46) (o 48 (.lV (.load 21 47) 21)) (am 6 48) (.exit 1))))))) (cO 49 6 7 (aK (ao 50 6 (o 51 (.raw (.binOp .and 21 50 (lA 4) 21) 21)) (bL 52 (.fV .eql 51 (lA 0))) (bF 52 (cG 53 7 (o 54 (.raw (.binOp .or 21 53 (lA 1) 21) 21)) 7 54))) (ao 55 6 (o 56 (.raw (.binOp .and 21 55 (lA 5) 21) 21)) (bL 57 (.fV .neq 56 (lA 0))) (bF 57 (cG 58 7 (o 59 (.fV .add 58 (lA 8))) 7 59))) (aK (an 60 3 (aL 60) (bX 61 6) (gt 61 63 (.raw (.binOp .and 21 62 (lA 1) 21) 21)) (aD (gt 61 64 (.fV .neq 63 (lA 0))) (bw 61 64)) (bF 65 (cG 66 7 (o 67 (.raw (.binOp .or 21 66 (lA 4) 21) 21)) 7 67))) (sq (am 68 4) (aE 68 (dO 69 7 (o 70 (.raw (.binOp .and 21 69 (lA 2) 21) 21)) (bL 71 (.fV .eql 70 (lA 0))) (bF 71 (cF 72)) (dQ 73 7 (o 74 (.raw (.binOp .andNot 21 73 (lA 2) 21) 21)) 7 74)))) (cS 75 0 (nG 76 75) 77 (.fE 0 76) (dW 78) (aD (eJ 79) (o 80 (kP 332 #[77,78,79] #[439,21,21] 4))) (N 80 (dO 81 6 (o 82 (.raw (.binOp .and 21 81 (lA 5) 21) 21)) (bL 83 (.fV .eql 82 (lA 0))) (aE 83 (.exit 0)) (eV 84 2 (ax .neq 84 0) 8 (S (bx 86 2 .eql 86 0 (bF 87 (aI (o 88 (kP 360 #[] #[] 2)) 2 88))) (cS 89 0 (nG 90 89) 91 (.fE 1 90) (fc 92) (bL 93 (kP 361 #[91,92,(k 2)] #[389,4,3] 0)) (an 94 3 (aL 94) (dq 95 (kP 360 #[] #[] 2)) (mf 95 97 2) (cm (gf 95 98 (.raw (.binOp .sub 2 96 97 2) 2)) (gf 95 99 (.fV .gtr 98 (k 1000000))) (bA 95 99) 3 100) (cS 101 0 (nG 102 101) 103 (.fE 0 102) (o 104 (.lV (.load 21 103) 21)) (am 6 104) (dO 105 6 (o 106 (.raw (.binOp .and 21 105 (lA 4) 21) 21)) (bL 107 (.fV .neq 106 (lA 0))) (aE 107 (S (cS 108 6 (o 109 (.raw (.binOp .and 21 108 (lA 3) 21) 21)) 110 (.fV .neq 109 (lA 0)) (aL 110) (ce (cY 111 6) (gf 111 113 (.raw (.binOp .shr 21 112 (lW 3) 286) 21)) (gf 111 114 (.fV .eql 113 (lA 0))) (bA 111 114)) (bF 115 (cF 116))) (eQ 9 (.lS (.const (.int .i32 (Int.negSucc 6)))) (S (an 117 3 (o 118 (.not 117)) (aL 118) (cY 119 6) (eG (gf 119 121 (.raw (.binOp .shr 21 120 (lW 3) 286) 21)) (gf 119 122 (.fV .eql 121 (lA 1))) (bA 119 122)) (bF 123 (cG 124 9 (o 125 (.raw (.binOp .sub 21 124 (lA 4) 21) 21)) 9 125))) (cS 126 0 (nG 127 126) 128 (.fE 0 127) (dP 129) (bL 130 (kP 334 #[128,129] #[439,21] 21)) (.exit 0)))))) (aC (m1 4) (.fK (dy 5)))))))))) (dk 131 0 (nG 132 131) (o 133 (.fE 0 132)) (o 134 (.lV (.load 21 133) 21)) (am 6 134)))))))))) (aE k1 (eQ 135 (kP 269 #[] #[] 0) (.fK (aa (bg 136) (o 137 (sH 437 384 136 384)) (bL 138 (kP 283 #[137] #[384] 0)))))))))))
def Zqg:List Ze:=[]
def ZwV:aU Tryz.prog 333 1 Zi3 Zqg:=fN [(999999,0)] Tryz.func333
def Zi2:Zc:=S (cS 5 1 (o 6 (.fV .add 5 (lA 1))) 7 (.raw (.binOp .and 21 6 (lA 1) 21) 21) (o 8 (.fV .eql 7 (lA 0))) [] (bF 8 (bL 9 (.raw (.call (.mk (.value (.func 362)) #[(.const (.string (.mk #[115,121,110,99,58,32,117,110,108,111,99,107,32,111,102,32,117,110,108,111,99,107,101,100,32,109,117,116,101,120])))] #[9])) 0)))) (ao 10 1 (o 11 (.raw (.binOp .and 21 10 (lA 4) 21) 21)) (bL 12 (.fV .eql 11 (lA 0))) (N 12 (cO 13 1 4 (bH 0 (B 1 (S (cS 14 4 (o 15 (.raw (.binOp .shr 21 14 (lW 3) 286) 21)) 16 (.fV .eql 15 (lA 0)) (aL 16) (ce (cY 17 4) (gf 17 19 (.raw (.binOp .and 21 18 (lA 7) 21) 21)) (gf 17 20 (.fV .neq 19 (lA 0))) (bA 17 20)) (aE 21 .ret)) (cS 22 4 (o 23 (.raw (.binOp .sub 21 22 (lA 8) 21) 21)) 24 (.raw (.binOp .or 21 23 (lA 2) 21) 21) (m 1 24) [] (S (cS 25 0 (nG 26 25) 27 (.fE 0 26) (fx 28) (aD (bR 29) (o 30 (kP 332 #[27,28,29] #[439,21,21] 4))) (cr 30 (az 31 0 (nG 32 31) (o 33 (.fE 1 32)) (o 34 (kP 363 #[33,k0,(k 2)] #[389,4,3] 0)) []))) (dk 35 0 (nG 36 35) (o 37 (.fE 0 36)) (o 38 (.lV (.load 21 37) 21)) (am 4 38)))))))) (dk 39 0 (nG 40 39) (o 41 (.fE 1 40)) (o 42 (kP 363 #[41,k1,(k 2)] #[389,4,3] 0)) [])))
def ZhP:List Ze:=[]
def ZwU:aU Tryz.prog 335 2 Zi2 ZhP:=fN [(999999,0)] Tryz.func335
def Lp:iU Tryz.prog 267 (Extern.Race.marked .releaseMerge):=⟨Tryz.f267,Tryz.func267,U,U,U,U⟩
def U0:iU Tryz.prog 268 (λ_=>do mark .disable;pure Zx):=⟨Tryz.f268,Tryz.func268,U,U,U,U⟩
def Zv:iU Tryz.prog 269 (λ_=>do mark .enable;pure Zx):=⟨Tryz.f269,Tryz.func269,U,U,U,U⟩
def ZmF:iU Tryz.prog 270 (λ_=>pure (.bool false)):=⟨Tryz.f270,Tryz.func270,U,U,U,U⟩
def ZmE:iU Tryz.prog 275 (Extern.Race.marked .read):=⟨Tryz.f275,Tryz.func275,U,U,U,U⟩
def ZmD:iU Tryz.prog 279 Extern.Sync.semrelease:=⟨Tryz.f279,Tryz.func279,U,U,U,U⟩
def Zy:iU Tryz.prog 283 (Extern.Race.marked .acquire):=⟨Tryz.f283,Tryz.func283,U,U,U,U⟩
def ZmC:iU Tryz.prog 286 (Extern.Race.marked .write):=⟨Tryz.f286,Tryz.func286,U,U,U,U⟩
def ZmB:iU Tryz.prog 287 Extern.Sync.semacquire:=⟨Tryz.f287,Tryz.func287,U,U,U,U⟩
def ZfO:iU Tryz.prog 329 (Extern.Atomic.update (Op.intArith .add) .u64 true):=⟨Tryz.f329,Tryz.func329,U,U,U,U⟩
def Lq:iU Tryz.prog 330 (Extern.Atomic.loadT (.int .u64)):=⟨Tryz.f330,Tryz.func330,U,U,U,U⟩
def ZmA:iU Tryz.prog 331 Extern.Atomic.storeT:=⟨Tryz.f331,Tryz.func331,U,U,U,U⟩
def YU:iU Tryz.prog 332 (Extern.Atomic.casT (.int .i32)):=⟨Tryz.f332,Tryz.func332,U,U,U,U⟩
def ZJ:iU Tryz.prog 334 (Extern.Atomic.update (Op.intArith .add) .i32 true):=⟨Tryz.f334,Tryz.func334,U,U,U,U⟩
def Zmz:iU Tryz.prog 336 (Extern.Atomic.casT (.int .u64)):=⟨Tryz.f336,Tryz.func336,U,U,U,U⟩
def Zmy:iU Tryz.prog 357 Extern.Sync.canSpin:=⟨Tryz.f357,Tryz.func357,U,U,U,U⟩
def Mo:iU Tryz.prog 358 (λ_=>pure Zx):=⟨Tryz.f358,Tryz.func358,U,U,U,U⟩
def YT:iU Tryz.prog 360 Extern.OsHooks.nano:=⟨Tryz.f360,Tryz.func360,U,U,U,U⟩
def Vu:iU Tryz.prog 361 Extern.Sync.semacquire:=⟨Tryz.f361,Tryz.func361,U,U,U,U⟩
def Lr:iU Tryz.prog 363 Extern.Sync.semrelease:=⟨Tryz.f363,Tryz.func363,U,U,U,U⟩
end
section
variable{f:FuncId}{k:IntKind}{t:TypeId}{Post:Value->Hp->Prop}{α:Type}{H':Hp}{a:Addr}{cs vs:List Value}{i iS:Nat}{xs:List Operand}
class Tz (P:fP):Prop where
 prog:P.toProgram=Tryz.prog
def fO{P:fP}[Tz P]{f k:Nat}{n:Zc}{r:List Ze}(h:aU Tryz.prog f k n r):aU P.toProgram f k n r:=by rw[Tz.prog (P:=P)];exact h
def fU{P:fP}[Tz P]{d:TypeDesc}(h:Tryz.prog.underlying t=some d):P.toProgram.underlying t=some d:=by rw[Tz.prog (P:=P)];exact h
def fT{P:fP}[Tz P]{c:Nat}{z:Value}{b:Nat}(h:Yw Tryz.prog t=some (c,some z,b)):TI P.toProgram t c z b:=by rw[Tz.prog (P:=P)];exact ZgI h
def rD{P:fP}[Tz P]{n:Option Nat}(h:Ym Tryz.prog t=some n):Ym P.toProgram t=some n:=by rw[Tz.prog (P:=P)];exact h
def Zm3(p:Program)(f:FuncId):Bool:=match p.funcs[f]? with | some fn=>fn.body.isSome && !(fn.name == "runtime.NumGoroutine") | none=>false
def Yv{P:fP}[Tz P]{first cap args:Array Value}{H:Hp}(hb:Zm3 Tryz.prog f=true)(h:LL.Zb P f (first++args++cap) H Post):Z5 P (.func (.func f) first cap) args H Post:=by
 unfold Zm3 at hb;split at hb
 ·rename_i fn b;simp only[qAc,qBi]at hb;exact Z5.of (by rw[Tz.prog (P:=P)];exact b) hb.1 hb.2 h
 simp at hb
abbrev vi(n:Int):Value:=.int .i64 n
abbrev vb(b:Bool):Value:=.bool b
abbrev vf(f:Nat):Value:=.func (.func f) #[] #[]
def Zel:Tryz.prog.underlying 317=some (.array 3 254):=U
def Zes:Yw Tryz.prog 254=some (1,some .nilFunc,8):=U
def Zf8:Ym Tryz.prog 254=some none:=U
def jR:Tryz.prog.underlying 45=some (.slice 3):=U
def t3:Yw Tryz.prog 3=some (1,some (vi 0),8):=U
def a3:Ym Tryz.prog 3=some none:=U
class Enc (α:Type) where
 sz:Nat
 enc:α->List Value
 len:∀a,(enc a).length=sz
def Zd[Enc α](l:List α):List Value:=l.flatMap Enc.enc
def Y7{α:Type}[Enc α]:∀l:List α,(Zd l).length=l.length * Enc.sz α
 | []=>by simp[Zd]
 | a :: l=>by have:=Y7 l;simp only[Zd,qAI,IN,Enc.len,qAF]at this ⊢;rw[this,qBx];omega
def PT{α:Type}[Enc α]:∀(l:List α) (i j:Nat) (b:i<l.length),j<Enc.sz α->(Zd l)[i * Enc.sz α+j]? = (Enc.enc l[i])[j]?
 | [],i,j,b,_=>by simp at b
 | a :: l,0,j,b,c=>by simp only[Zd,qAI,qDg,qAJ,List.getElem_cons_zero];rw[qAQ (by rw[Enc.len];exact c)]
 | a :: l,i+1,j,b,c=>by have:=PT l i j (by simpa using b) c;simp only[Zd,qAI,List.getElem_cons_succ]at this ⊢;rw[qBz (by rw[Enc.len,qBx];omega),Enc.len,<-this];congr 1;rw[qBx];omega
def dF[Enc α](H:Hp)(v:Value)(l:List α):Prop:=∃A c,v=.slice A l.length c/\(l≠[]->∃a,A=some a/\aM H a (Zd l))
def _root_.Go.LL.aM.sub{H:Hp}(h:aM H a cs)(g:H.Sub H'):aM H' a cs:=by obtain⟨b,o,p,c,e⟩:=h;exact⟨b,o,p,g.mem _ _ c,e⟩
def dF.sub[Enc α]{H:Hp}{v:Value}{l:List α}(h:dF H v l)(n:H.Sub H'):dF H' v l:=by obtain⟨A,c,b,e⟩:=h;refine⟨A,c,b,λm=>?_⟩;obtain⟨a,g,j⟩:=e m;exact⟨a,g,j.sub n⟩
def dF.nil[Enc α](H:Hp):dF H (.slice none 0 0) ([]:List α):=⟨none,0,rfl,λh=>absurd rfl h⟩
theorem MC(a:Addr)(n:Nat):(a.add n).off=a.off+n:=by
 unfold Addr.add;split
 ·subst n;rfl
 rfl
theorem MB(a:Addr)(n:Nat):(a.add n).block=a.block:=by unfold Addr.add;split<;>rfl
theorem XD(h:a.spot=none)(n:Nat):(a.add n).spot=none:=by
 unfold Addr.add;split
 ·exact h
 rfl
def _root_.Go.LL.aM.row[Enc α]{H:Hp}{l:List α}(h:aM H a (Zd l))(b:i<l.length):aM H (a.add (i * Enc.sz α)) (Enc.enc l[i]):=by obtain⟨e,o,p,g,m⟩:=h;refine⟨XD e _,o,p,by rw[MB];exact g,λj c=>?_⟩;rw[Enc.len]at c;rw[MC,qCW,m _ (by rw[Y7];have:(i+1) * Enc.sz α<=l.length * Enc.sz α:=qAV _ b;rw[qBx]at this;omega),PT l i j b c]
section
variable{P:fP}{d:Option Nat}{next:fG->Hp->Prop}{σ:fG}{H:Hp}{x y:Operand}{v:Value}
def yZ[Enc α]{l:List α}(p:dF H v l)(e:σ.get x=some v)(g:σ.get y=some (.int k (i:Int)))(o:Enc.sz α=iS)(b:i<l.length)(h:∀a,aM H a (Enc.enc l[i])->next (σ.set d (.pointer (some a))) H):(fR.gC iS x y).m P d next σ H:=by obtain⟨A,c,rfl,j⟩:=p;obtain⟨a,rfl,n⟩:=j (by rintro rfl;simp at b);subst o;exact CL e g b (h _ (n.row b))
def YH[Enc α]{l:List α}(b:dF H v l)(e:σ.get x=some v)(h:next (σ.set d (.int .i64 (l.length:Int))) H):(fR.len x).m P d next σ H:=by obtain⟨A,c,rfl,g⟩:=b;exact Zik e h
def ZB[Enc α]{l:List α}(i:Nat)(j:dF H v l)(g:i<l.length)(h:∀a,aM H a (Enc.enc l[i])->next (σ.set d (.pointer (some a))) H)(b:σ.get x=some v:=by exact rfl)(c:σ.get y=some (.int k (i:Int)):=by exact rfl)(e:Enc.sz α=iS:=by exact rfl):(fR.gC iS x y).m P d next σ H:=yZ j b c e g h
def Z8[Loud P](b:aM H a [v])(h:next (σ.set d v) H)(e:σ.get x=some (.pointer (some a)):=by exact rfl):(fR.ld none x).m P d next σ H:=Zh (Loud.fD _) e b h
def YL[Loud P]{n:Nat}(b:aM H a cs)(h:next (σ.set d (.agg cs.toArray)) H)(e:σ.get x=some (.pointer (some a)):=by exact rfl)(c:cs.length=n:=by exact rfl):(fR.ld (some n) x).m P d next σ H:=Zn (Loud.fD _) e b c h
def Zg(b:LL.Zb P f vs.toArray H Post)(h:∀v H',Post v H'->next (σ.set d v) H')(e:σ.gets xs=some vs:=by exact rfl):(fR.call f xs).m P d next σ H:=Z7 e b h
def Zo{X:Value}(c:LL.Zb P f vs.toArray H λv b=>H=b/\v=X)(h:next (σ.set d X) H)(e:σ.gets xs=some vs:=by exact rfl):(fR.call f xs).m P d next σ H:=Z7 e c (by rintro v _ ⟨rfl,rfl⟩;exact h)
end
instance:Enc Int:=⟨1,λn=>[vi n],λ_=>rfl⟩
instance:Enc Value:=⟨1,λv=>[v],λ_=>rfl⟩
end
open Go.Z
def Zk7:Zc:=aG 1 (.eE 1 [1] 0) (bY 2) (dy 3) (S (cq 5 1 5 (bp 129 5) (am 4 6) (fj 7 4 (cG 9 4 (bY 2) 3 9))) (aV 10 1 5 (o 11 (.build [z0,z0,z0,s0,s0] [(0,(5,10))])) (o 12 (.raw (.makeFunc (.func 131) #[11] #[]) 249)) (bp 130 12) (aa (aO 13) (m 2 14) (dy 3)) .ret))
def Zsq:List Ze:=[(.aW 2),(.aW 3)]
def ZyZ:aU Tryz.prog 52 1 Zk7 Zsq:=fN [(1,1)] Tryz.func52
def Zk2:Zc:=aG 1 (.eE 1 [1] 0) (bY 2) (dy 3) (aV 7 1 5 (o 8 (.call 132 [7,(.func 139)])) (fc 6) (dg 9 6) (ec (dh 10 6) (du (.eC 4 [4] [z0,z0,z0,s0,s0,s0])) 4 6 9 5 10) (S (fj 11 5 (cG 13 5 (bY 2) 3 13)) (fa 14 4 6 140 14 (aO 15) (m 2 16) (dy 3) .ret)))
def Zsl:List Ze:=[(.aW 2),(.aW 3)]
def ZyU:aU Tryz.prog 57 1 Zk2 Zsl:=fN [(1,1),(4,4)] Tryz.func57
def ZkX:Zc:=eQ 2 (.eC 2 [2] [z0,z0]) (bm 3 0 0 (cy 67 3) (bo 2 2 5) [] .ret)
def Zsf:List Ze:=[(.kS 2 2 (some 2))]
def ZyP:aU Tryz.prog 62 1 ZkX Zsf:=fN [(2,2)] Tryz.func62
def ZkW:Zc:=aC ee (bm 5 0 1 (o 7 (.build [z0,z0] [(0,(1,5)),(1,(1,6))])) (bo 4 2 7) [] .ret)
def Zse:List Ze:=[(.kS 4 4 (some 2))]
def ZyO:aU Tryz.prog 67 2 ZkW Zse:=fN [(4,4)] Tryz.func67
def Zjp:Zc:=dA 3 (.eE 3 [3,8,12,14,19] 0) 6 (fC 7 1 (fw 8 3) (au 3 8) (ay .leq 7 9) (fh 10 (gt 11 12 (.fH 0 3)) (gt 11 13 (.gO 3 none 12)) (dZ 11 14) (a8 (gt 11 15 (.gO 3 none 14)) (gt 11 16 (.fV .leq 13 15)) (bw 11 16) (aL 17) (dZ 18 19) (gt 18 20 (.gO 3 none 19)) (mt 18 21 2) (gt 18 22 (.fV .leq 20 21)) (aI (bw 18 22) 6 23))))
def ZqB:List Ze:=[(.aW 6)]
def Zxh:aU Tryz.prog 72 3 Zjp ZqB:=fN [(3,3),(8,3),(12,3),(14,3),(19,3)] Tryz.func72
def ZiR:Zc:=bn 3 (.eE 3 [3,7,13] 0) (o 6 (.eC 6 [6] [z0,z0])) (dX 7 0 3 (bR 9) (eR (.gE (.call (.mk (.builtin .max) #[8,9] #[3,3])) 3)) (az 11 2 (o 12 (.gE (.call (.mk (.builtin .min) #[10,11] #[3,3])) 3)) (f 13 1 3) (au 3 13) (az 15 1 (o 16 (.gE (.call (.mk (.builtin .max) #[14,15] #[3,3])) 3)) (dv 17) (o 18 (.gE (.call (.mk (.builtin .min) #[16,17] #[3,3])) 3)) (aD (bC 67 12 18) (bo 6 2 19)))) .ret)
def Zp5:List Ze:=[(.kS 6 6 (some 2))]
def ZwJ:aU Tryz.prog 82 3 ZiR Zp5:=fN [(3,3),(6,6),(7,3),(13,3)] Tryz.func82
def Zkp:Zc:=aG 3 (.eE 3 [3,20,21,64,65,98,99] 0) (du (.eE 4 [4,46] 1)) (ag (al 6)) (cS 17 2 (aO 17) 19 (.raw (.makeSlice 112 18 18) 112) (o 7 (.raw (.alloc 112) 0)) (ag (cJ 112 7 19)) (dS 20 0 3 0 20 (au 3 21) (o 23 (.raw (.makeSlice 45 22 22) 45)) (am 8 23) (dO 24 2 (aO 24) (dy 26) (cX 0 27 27 26 25 1 (af (ia 28 1 24 26) (aJ 28) (am 10 29) (de 30 (.ld (some 1) (.global 3)) (fc 31) (cy 194 30) (m 11 32) [] (aj [ld 33 7,dz 34,fc 35,db 36,cH 37 35,aJ 37,aF 39 4 33,o 40 (.fE 0 39),cJ 3 40 38] (aj [fc 41,db 42,cH 43 41,aJ 43,dz 45,o 46 (.hO 1 4 4 45),au 4 46,eu 44 47,cH 49 41,cJ 3 49 48] (.drawn [ld 50 7,dz 51,fc 52,db 53,cH 54 52,aJ 54,aF 56 4 50,o 57 (.fE 1 56),cJ 3 57 55]))))) 58 26 1 26 58) (eV 59 2 (bp 195 59) 12 (ao 61 12 (o 62 (.raw (.makeFunc (.func 197) #[] #[7]) 316)) (ag (cy 196 61)) (dS 64 0 3 1 64 (au 3 65) (o 67 (.raw (.makeSlice 45 66 66) 45)) (am 13 67) (dO 68 12 (aO 68) (dy 70) (cX 2 71 71 70 69 3 (af (ia 72 1 68 70) (aJ 72) (am 15 73) (de 74 (.ld (some 1) (.global 3)) (m 75 13) (cy 194 74) (m 16 76) [] (aj [ld 77 7,m 78 15,ld 79 7,m 80 15,aF 81 4 79,o 82 (.fE 1 81),aJ 82,m 84 13,m 85 16,cH 86 84,aJ 86,(o 88 (.gE (.call (.mk (.builtin .max) #[83,87] #[3,3])) 3),none),aF 89 4 77,o 90 (.fE 2 89),cJ 3 90 88] (aj [ld 91 7,m 92 15,ld 93 7,m 94 15,aF 95 4 93,o 96 (.fE 2 95),aJ 96,fw 98 3,cu 3 98,au 3 99,m 101 15,aF 102 5 100,o 103 (.fE 3 102),aJ 103,eu 97 104,aF 106 4 91,o 107 (.fE 3 106),cJ 3 107 105] (dk 108 13 (m 109 16) (ld 110 7) (m 111 15) (ac (aF 112 4 110) (o 113 (.fE 3 112)) (aJ 113) (cH 115 108) (ag (cJ 3 115 114)))))))) 116 70 1 70 116) (af (ld 117 7) (m 6 117) [] .ret))))))))
def ZrG:List Ze:=[(.aW 6)]
def Zyh:aU Tryz.prog 127 3 Zkp ZrG:=fN [(3,3),(4,4),(20,3),(21,3),(46,4),(64,3),(65,3),(98,3),(99,3)] Tryz.func127
def ZkF:Zc:=aG 2 (.eE 2 [2] 0) (du (.eC 4 [4] [z0,z0,z0,s0,s0,s0])) (dy 5) (S (cq 9 2 5 (bp 129 9) (am 6 10) (fj 11 6 (ec (o 13 (.build [z0,z0,z0,s0,s0,s0] [])) (dW 14) 4 6 13 5 14))) (aV 15 2 5 (o 16 (.build [z0,z0,z0,s0,s0] [(0,(5,15))])) (o 17 (.build [z0,z0,z0,s0,s0,s0] [(0,(5,16))])) (o 7 (.eC 7 [7,19,26,30,31] [z0,z0,z0,s0,s0,s0])) (ag (bo 7 6 17)) (aK (an 18 1 (fw 19 7) (l 20 7 5 19) (o 21 (.raw (.call (.mk (.value 18) #[20] #[238])) 39)) (am 8 21) (fj 22 8 (ec (o 24 (.build [z0,z0,z0,s0,s0,s0] [])) (fc 25) 4 6 24 5 25))) (aX 26 0 7 (l 27 7 5 26) (o 28 (.raw (.makeFunc (.func 131) #[27] #[]) 249)) (bp 130 28) (aD (f 30 5 7) (ls 7 1 30 29)) (dY 31 5 7 32 (ax .eql 33 0) [] (cr 34 (aa (o 35 (.build [z0,z0,z0,s0,s0,s0] [])) (bo 4 6 35) (ah 5 9))))) (cq 36 7 6 (bo 4 6 36) (dy 5) .ret))))
def ZrX:List Ze:=[(.kS 4 4 (some 6)),(.aW 5)]
def Zyx:aU Tryz.prog 132 2 ZkF ZrX:=fN [(2,2),(4,4),(7,7),(19,7),(26,7),(30,7),(31,7)] Tryz.func132
def ZkB:Zc:=bZ 3 (.eE 3 [3] 0) 4 (S (eK 6 3 5 (ld 7 1) 138 6 (fc 5) [] (fj 9 5 (aI (di 11) 4 11))) (aj [ld 12 2,aN 14 3 5,(bp 133 12,(some false)),(o 15 (.raw (.call (.mk (.value 13) #[14] #[238])) 39),none),m 4 15] .ret))
def ZrS:List Ze:=[(.aW 4)]
def Zyt:aU Tryz.prog 137 3 ZkB ZrS:=fN [(3,3)] Tryz.func137
def Zkv:Zc:=bZ 1 (.eE 1 [1,3,4] 0) 2 (dS 3 1 1 1 3 (dN 4) (di 2) [] .ret)
def ZrM:List Ze:=[(.aW 2)]
def Zyn:aU Tryz.prog 142 1 Zkv ZrM:=fN [(1,1),(3,1),(4,1)] Tryz.func142
def Zkm:Zc:=aG 2 (.eE 2 [2,13,14] 0) (du (.eC 4 [4] [z0,z0,z0,s0,s0])) (ag (al 5)) (dJ 6 (cq 10 2 5 (o 7 (.eC 7 [7,11,12,31,32,37,38] [z0,z0,z0,s0,s0])) (ag (fB 7 10)) (af (fw 11 7) (cu 4 11) (ag (u (.tS 7 1 12 (.const s0)))) (S (dS 13 0 2 4 13 (dw 14) (aO 15) (dy 17) (cX 0 18 18 17 16 1 (an 19 17 (ia 20 3 15 17) (bB 3 20) (o 9 (.eC 9 [9] [s0,z0,z0])) (aD (m 8 19) (bo 9 3 21)) (bm 22 1 8 (o 24 (.gE (.binOp .shr 3 22 23 3) 3)) (o 25 (.gE (.binOp .and 3 24 (k 1) 3) 3)) (ag (ax .eql 25 1)) (aE 26 (.drawn [dW 27,fc 28,fw 31 7,cu 4 31,au 7 32,aN 34 9 3,u (.build [s0,z0,z0] [(0,(3,34))]),(o 29 (.fJ 3 1 [z0] [(0,(1,28))]),(some false)),u (.build [s0,z0,z0] [(0,(3,34))]),(o 30 (.raw (.call (.mk (.builtin .append) #[27,29] #[45,45])) 45),(some false)),(o 35 (.fJ 137 1 [s0,z0,z0] [(0,(3,34))]),(some false)),(o 36 (.raw (.call (.mk (.builtin .append) #[33,35] #[23,23])) 23),none),m 6 30,fw 37 7,cu 4 37,ls 7 1 38 36])))) 39 17 1 17 39)) (aV 40 7 5 (dW 41) (fB 4 40) (m 5 41) [] .ret)))))
def ZrD:List Ze:=[(.kS 4 4 (some 5)),(.aW 5)]
def Zye:aU Tryz.prog 147 2 Zkm ZrD:=fN [(2,2),(4,4),(7,7),(9,9),(11,7),(12,7),(13,2),(14,2),(31,7),(32,7),(37,7),(38,7)] Tryz.func147
def Zjo:Zc:=aC (m1 8) (aC (m1 9) (bH 0 (B 1 (ci 19 2 1 (dD 19) 10 21 [] (aK (bx 22 10 .leq 22 12 (cr 23 (az 24 0 (bR 25) (dv 26) (eI 224 24 25 26) []))) (bx 28 3 .eql 28 0 (cr 29 (az 30 0 (bR 31) (dv 32) (eI 225 30 31 32) []))) (S (aZ 34 8 (o 35 (.not 34)) (aE 35 (bm 36 0 1 (dv 38) (eI 226 36 37 38) [] (eU 40 3 40 3 41)))) (bm 43 0 1 (dv 45) (eI 227 43 44 45) (az 42 46 (dg 47 42) (dh 48 42) (m 11 47) (am 12 48)) (aK (bx 49 12 .eql 49 2 (aE 50 (bm 51 0 1 (dv 53) (eI 228 51 52 53) [] (an 55 2 (cZ 55) (db 57) (bR 58) (aY (dD 57) (ay .sub 56 59) 11 60) (.fK (ah 12 1)))))) (an 61 8 (aL 61) (bX 62 9) (bw 62 63) (fh 64 (bX 65 12) (gt 65 67 (.fV .eql 66 (k 1))) (bw 65 67) []) (aE 68 (bm 69 0 1 (dv 71) (eI 229 69 70 71) [] (aE 72 .ret)))) (ez [bR 73,dx 73 0,aL 74,bX 75 0,mt 75 77 1,gt 75 78 (.fV .sub 77 (k 1)),gt 75 79 (.gC 1 76 78),gt 75 80 (.ld none 79),mt 75 81 0,mt 75 82 11,gt 75 83 (.gC 1 81 82),gt 75 84 (.ld none 83),gt 75 85 (.call 230 [80,84]),gt 75 86 (.not 85),bw 75 86] (aE 87 (ci 88 0 1 (dv 90) 91 11 (aI (o 92 (.call 231 [88,89,90,91])) 13 92) (cO 93 13 1 (.exit 1)))) (ci 95 0 1 (dv 97) 98 11 (ac (o 99 (.call 232 [95,96,97,98])) (m 94 99) (dg 100 94) (dh 101 94) (aI (m 14 100) 15 101)) (cO 102 15 9 (ci 103 14 1 (dD 103) 106 2 (az 107 14 (dD 106) (m 16 105) (m 17 108) []) (eV 109 10 (o 110 (.gE (.binOp .quo 3 109 (k 8) 3) 3)) 18 (ao 111 16 (m 112 17) (bQ 111 112) (N 113 (ci 114 16 18 (bD .geq 114) 8 116 [] (ci 117 0 1 (m 119 14) 120 3 (bL 121 (.call 157 [117,118,119,120])) (dQ 122 14 (eD 122) 1 123))) (ci 124 17 18 (bD .geq 124) 8 126 [] (ci 127 0 14 (eD 128) 130 2 (aD (dm 131) (o 132 (.call 157 [127,129,130,131]))) (.fK (aI (m 133 14) 2 133)))))))))))))))))))
def ZqA:List Ze:=[]
def Zxg:aU Tryz.prog 157 4 Zjo ZqA:=fN [] Tryz.func157
def Qy:Zc:=bJ 4 (S (dd 5 0 9 6 5 (bg 7) (aO 7) (ba 6 8) [] 1 (S (bm 12 0 5 (cH 14 12) (aJ 14) (az 16 1 (cZ 16) (o 18 (.call 71 [15,(k 0),17])) (o 19 (.not 18)) []) (bj 19 4 6)) (aj [di 20,dx 20 0,aL 21,bX 22 0,mt 22 24 5,gt 22 25 (.gC 1 23 24),gt 22 26 (.ld none 25),mt 22 27 0,mt 22 28 5,gt 22 29 (.fV .sub 28 (k 1)),gt 22 30 (.gC 1 27 29),gt 22 31 (.ld none 30),gt 22 32 (.fV .leq 26 31),bw 22 32] (bj 33 4 7))) 10 11 5) (cB 4))
def r68:List Ze:=[(.aW 4)]
def c68:aU Tryz.prog 162 2 Qy r68:=fN [] Tryz.func162
def Zkf:Zc:=bZ 2 (.eE 2 [2,8,9] 0) 4 (S (B 0 (an 6 1 (aO 6) (dB 8 0) (cu 3 8) (cm (dw 9) (aO 10) (ay .neq 7 11) 5 12) (N 5 (aB 4 2 .ret) (eV 14 1 (o 15 (.call 259 [14,(.func 260)])) 13 (bj 13 4 1))))) (cB 4))
def Zrw:List Ze:=[(.aW 4)]
def Zx7:aU Tryz.prog 192 2 Zkf Zrw:=fN [(2,2),(8,2),(9,2)] Tryz.func192
def ZjX:Zc:=bJ 5 (aj [ld 6 2,bg 7,aF 8 4 6,o 9 (.fE 1 8),aJ 9,ld 11 2,bR 12,aF 13 4 11,o 14 (.fE 1 13),aJ 14,ay .sub 10 15,m 5 16] .ret)
def Zrc:List Ze:=[(.aW 5)]
def ZxP:aU Tryz.prog 197 3 ZjX Zrc:=fN [] Tryz.func197
def Zka:Zc:=dA 2 (.eE 2 [2,6,7] 0) 4 (fC 5 1 (dB 6 0) (cu 3 6) (dw 7) (cm (aO 8) (cZ 9) (o 11 (.call 261 [5,(k 0),10])) 4 11))
def Zrq:List Ze:=[(.aW 4)]
def Zx2:aU Tryz.prog 202 2 Zka Zrq:=fN [(2,2),(6,2),(7,2)] Tryz.func202
def Zj4:Zc:=aC (u (.raw (.defer (.mk (.value (.func 209)) #[0] #[339])) 0)) (aC (ld 7 1) (bH 0 (bn 8 (.raw (.recv 325 7 true) 0) (dh 9 8) (S (dH 9 0) (B 1 (af (dg 10 8) (dz 5) [] (ae (lm 11 6 2) (di 12) (cy 135 11) (o 6 (.eC 6 [6,15] [s0,z0,z0,z0,z0,z0,z0,z0])) (ag (bo 6 8 13)) (ae (lm 14 6 2) (f 15 3 6) (au 6 15) (bC 136 14 16) (ag (ax .eql 17 1)) (aE 18 (aC (c1 19 210 3) (ae (ld 20 4) (aN 21 6 8) (o 22 (.fJ 258 1 [s0,z0,z0,z0,z0,z0,z0,z0] [(0,(8,21))])) (o 23 (.raw (.call (.mk (.builtin .append) #[20,22] #[262,262])) 262)) (ag (cJ 262 4 23)) (.fK (ag (c1 24 211 3))))))))))))))
def Zrk:List Ze:=[]
def ZxW:aU Tryz.prog 208 5 Zj4 Zrk:=fN [(6,6),(15,6)] Tryz.func208
def ZjW:Zc:=aC (m1 10) (aC (m1 11) (bH 0 (B 1 (ci 21 2 1 (dD 21) 12 23 [] (aK (bx 24 12 .leq 24 12 (cr 25 (az 26 0 (bR 27) (dv 28) (fx 29) (bL 30 (.call 289 [26,27,28,29]))))) (bx 31 3 .eql 31 0 (cr 32 (az 33 0 (bR 34) (dv 35) (fx 36) (bL 37 (.call 290 [33,34,35,36]))))) (S (aZ 38 10 (o 39 (.not 38)) (aE 39 (ci 40 0 1 (dv 42) 43 4 (bL 44 (.call 291 [40,41,42,43])) (eU 45 3 45 3 46)))) (ci 48 0 1 (dv 50) 51 4 (ac (o 52 (.call 292 [48,49,50,51])) (m 47 52) (dg 53 47) (dh 54 47) (aI (m 13 53) 14 54)) (aK (bx 55 14 .eql 55 2 (aE 56 (ci 57 0 1 (dv 59) 60 4 (bL 61 (.call 293 [57,58,59,60])) (an 62 2 (cZ 62) (m 64 13) (bR 65) (aY (dD 64) (ay .sub 63 66) 13 67) (.fK (ah 14 1)))))) (an 68 10 (aL 68) (bX 69 11) (bw 69 70) (fh 71 (bX 72 14) (gt 72 74 (.fV .eql 73 (k 1))) (bw 72 74) []) (aE 75 (ci 76 0 1 (dv 78) 79 4 (bL 80 (.call 294 [76,77,78,79])) (aE 80 .ret)))) (ez [bR 81,dx 81 0,aL 82,bX 83 4,mt 83 85 0,mt 83 86 1,gt 83 87 (.fV .sub 86 (k 1)),gt 83 88 (.gC 1 85 87),gt 83 89 (.ld none 88),mt 83 90 0,mt 83 91 13,gt 83 92 (.gC 1 90 91),gt 83 93 (.ld none 92),(gt 83 94 (.raw (.call (.mk (.value 84) #[89,93] #[45,45])) 3),none),gt 83 95 (.fV .lss 94 (k 0)),gt 83 96 (.not 95),bw 83 96] (aE 97 (ci 98 0 1 (dv 100) 101 13 (cG 102 4 (o 103 (.call 295 [98,99,100,101,102])) 15 103) (cO 104 15 1 (.exit 1)))) (ci 106 0 1 (dv 108) 109 13 (az 110 4 (o 111 (.call 296 [106,107,108,109,110])) (m 105 111) (dg 112 105) (aY (dh 113 105) (m 16 112) 17 113)) (cO 114 17 11 (ci 115 16 1 (dD 115) 118 2 (az 119 16 (dD 118) (m 18 117) (m 19 120) []) (eV 121 12 (o 122 (.gE (.binOp .quo 3 121 (k 8) 3) 3)) 20 (ao 123 18 (m 124 19) (bQ 123 124) (N 125 (ci 126 18 20 (bD .geq 126) 10 128 [] (ci 129 0 1 (m 131 16) 132 3 (aD (fx 133) (o 134 (.call 217 [129,130,131,132,133]))) (dQ 135 16 (eD 135) 1 136))) (ci 137 19 20 (bD .geq 137) 10 139 [] (ci 140 0 16 (eD 141) 143 2 (aa (dm 144) (fx 145) (bL 146 (.call 217 [140,142,143,144,145]))) (.fK (aI (m 147 16) 2 147)))))))))))))))))))
def Zrb:List Ze:=[]
def ZxO:aU Tryz.prog 217 5 ZjW Zrb:=fN [] Tryz.func217
def Zja:Zc:=af (bY 6) (bY 7) [] (ci 13 2 1 (dD 13) 8 15 [] (eQ 9 (.raw (.alloc 3) 0) (bm 16 1 8 (o 18 (.gE (.binOp .quo 3 17 (k 4) 3) 3)) (ax .mul 18 1) (aI (eu 16 19) 10 20) (bm 21 1 8 (o 23 (.gE (.binOp .quo 3 22 (k 4) 3) 3)) (ax .mul 23 2) (aI (eu 21 24) 11 25) (bm 26 1 8 (o 28 (.gE (.binOp .quo 3 27 (k 4) 3) 3)) (ax .mul 28 3) (aI (eu 26 29) 12 30) (S (bx 31 8 .geq 31 8 (aE 32 (S (bx 33 8 .geq 33 50 (aE 34 (ci 35 0 10 (c3 37 303 35 36 9) 10 37 [] (ci 38 0 11 (c3 40 303 38 39 9) 11 40 [] (dk 41 0 (dE 42) (c3 43 303 41 42 9) (m 12 43) []))))) (dk 44 0 (dz 45) (db 46) (dE 47) (aI (o 48 (.call 304 [44,45,46,47,9])) 11 48))))) (aC (ld 49 9) (B 0 (af (bk 52 .eql 49 0) (m 51 52) [] (N 51 (ao 53 11 (m 6 53) (ah 7 1) .ret) (af (bk 55 .eql 49 12) (m 54 55) [] (N 54 (ao 56 11 (m 6 56) (ah 7 2) .ret) (ao 50 11 (m 6 50) (dy 7) .ret)))))))))))))
def Zqn:List Ze:=[(.aW 6),(.aW 7)]
def Zw2:aU Tryz.prog 227 3 Zja Zqn:=fN [] Tryz.func227
def Zi5:Zc:=af (bY 8) (m0 9) [] (aj [bg 12,bR 13,bg 14,dm 15,bg 16,dm 17,cH 18 16,aJ 18,bg 20,bR 21,cH 22 20,aJ 22,cH 24 12,(cJ 3 24 19,(some false)),cH 25 14,cJ 3 25 23] (an 26 1 (eD 26) (dv 28) (cZ 28) (aI (m 10 27) 11 29) (aK (bH 0 (ez [dz 30,db 31,eT 30,aL 32,bX 33 0,mt 33 35 10,gt 33 36 (.gC 1 34 35),gt 33 37 (.ld none 36),mt 33 38 0,mt 33 39 1,gt 33 40 (.gC 1 38 39),gt 33 41 (.ld none 40),gt 33 42 (.call 230 [37,41]),bw 33 42] (dH 43 0) (B 1 (ic 44 45 10)))) (bH 2 (ez [dz 46,db 47,eT 46,aL 48,bX 49 0,mt 49 51 11,gt 49 52 (.gC 1 50 51),gt 49 53 (.ld none 52),mt 49 54 0,mt 49 55 1,gt 49 56 (.gC 1 54 55),gt 49 57 (.ld none 56),gt 49 58 (.call 230 [53,57]),gt 49 59 (.not 58),bw 49 59] (dH 60 2) (B 3 (eU 61 11 61 11 62)))) (dO 63 10 (db 64) (ag (bD .gtr 63)) (aE 65 (aj [bg 66,db 67,bg 68,bR 69,bg 70,bR 71,cH 72 70,aJ 72,bg 74,db 75,cH 76 74,aJ 76,cH 78 66,(cJ 3 78 73,(some false)),cH 79 68,cJ 3 79 77] (ao 80 11 (m 8 80) (ag (m1 9)) .ret))) (aj [bg 81,dz 82,bg 83,db 84,bg 85,db 86,cH 87 85,aJ 87,bg 89,dz 90,cH 91 89,aJ 91,cH 93 81,(cJ 3 93 88,(some false)),cH 94 83,cJ 3 94 92] (eV 95 10 (eD 95) 10 (eV 97 11 (cZ 97) 11 (S (bH 4 (B 5 (aK (bH 6 (ez [dz 99,db 100,eT 99,aL 101,bX 102 0,mt 102 104 10,gt 102 105 (.gC 1 103 104),gt 102 106 (.ld none 105),mt 102 107 0,mt 102 108 1,gt 102 109 (.gC 1 107 108),gt 102 110 (.ld none 109),gt 102 111 (.call 230 [106,110]),bw 102 111] (dH 112 6) (B 7 (ic 113 114 10)))) (bH 8 (ez [dz 115,db 116,eT 115,aL 117,bX 118 0,mt 118 120 11,gt 118 121 (.gC 1 119 120),gt 118 122 (.ld none 121),mt 118 123 0,mt 118 124 1,gt 118 125 (.gC 1 123 124),gt 118 126 (.ld none 125),gt 118 127 (.call 230 [122,126]),gt 118 128 (.not 127),bw 118 128] (dH 129 8) (B 9 (eU 130 11 130 11 131)))) (dO 132 10 (db 133) (ag (bD .gtr 132)) (aE 134 (.exit 4)) (aj [bg 135,dz 136,bg 137,db 138,bg 139,db 140,cH 141 139,aJ 141,bg 143,dz 144,cH 145 143,aJ 145,cH 147 135,(cJ 3 147 142,(some false)),cH 148 137,cJ 3 148 146] (eV 149 10 (eD 149) 10 (eU 151 11 151 11 152))))))) (aj [bg 153,db 154,bg 155,bR 156,bg 157,bR 158,cH 159 157,aJ 159,bg 161,db 162,cH 163 161,aJ 163,cH 165 153,(cJ 3 165 160,(some false)),cH 166 155,cJ 3 166 164] (ao 167 11 (m 8 167) (ag (m0 9)) .ret))))))))))
def Zqi:List Ze:=[(.aW 8),(.aW 9)]
def ZwX:aU Tryz.prog 232 4 Zi5 Zqi:=fN [] Tryz.func232
def ZjL:Zc:=cz 2 (fC 3 0 (du (.fV .geq 3 (yP 48))) (aL 4) (bX 5 0) (aY (gt 5 7 (.fV .leq 6 (yP 57))) (bw 5 7) 2 8))
def ZqY:List Ze:=[(.aW 2)]
def ZxD:aU Tryz.prog 252 1 ZjL ZqY:=fN [] Tryz.func252
def ZjN:Zc:=aB 6 20 (cx 10 6 (bY 7) 8 10 (S (bH 0 (dO 11 8 (bR 12) (ag (eT 11)) (dH 13 0) (B 1 (ci 14 0 7 (fc 16) 17 2 (bL 18 (.call 325 [14,15,16,17])) (cO 19 8 7 (dk 20 8 (dW 21) (dT 20) (m 8 22) [])))))) (ci 23 0 7 (bR 25) 26 2 (bL 27 (.call 325 [23,24,25,26])) (bH 2 (dO 28 6 (bR 29) (bQ 28 29) (dH 30 2) (B 3 (an 31 6 (o 32 (.fV .mul (k 2) 31)) (bY 7) (m 8 32) [] (aK (bH 4 (dO 33 8 (bR 34) (ag (eT 33)) (dH 35 4) (B 5 (ci 36 0 7 (eJ 38) 39 6 (ce (dT 38) (fc 41) (dv 42) (o 43 (.call 326 [36,37,40,41,42]))) (cO 44 8 7 (dk 45 8 (dW 46) (o 47 (.fV .mul (k 2) 46)) (eu 45 47) (am 8 48))))))) (ci 49 7 6 (dT 49) 9 51 [] (ao 52 9 (bR 53) (bQ 52 53) (bF 54 (az 55 0 (eJ 56) (dP 57) (bR 58) (aD (dv 59) (o 60 (.call 326 [55,56,57,58,59]))))))) (dQ 61 6 (ax .mul 61 2) 6 62)))))))))
def Zq0:List Ze:=[]
def ZxF:aU Tryz.prog 262 3 ZjN Zq0:=fN [] Tryz.func262
def ZiY:Zc:=eQ 2 (.lS (lW 0)) (fC 3 0 (du (.gE (.convert 3 286 3) 286)) (bp 158 4) (o 6 (.gE (.binOp .shl 286 (lW 1) 5 3) 286)) (am 2 6))
def Zqc:List Ze:=[(.aW 2)]
def ZwQ:aU Tryz.prog 301 1 ZiY Zqc:=fN [] Tryz.func301
def n50:Zc:=cz 4 (S (dd 5 0 9 6 5 (bg 7) (aO 7) (ba 6 8) [] 1 (bm 12 0 5 (cH 14 12) (aJ 14) (aD (bR 16) (bD .eql 15)) (bz 17 (m1 4))) 10 11 5) (cz 4 .ret))
def r50:List Ze:=[(.aW 4)]
def c50:aU Tryz.prog 306 2 n50 r50:=fN [] Tryz.func306
def ZjH:Zc:=af (bY 8) (bY 9) [] (ci 15 2 1 (dD 15) 10 17 [] (eQ 11 (.raw (.alloc 3) 0) (bm 18 1 10 (o 20 (.gE (.binOp .quo 3 19 (k 4) 3) 3)) (ax .mul 20 1) (aI (eu 18 21) 12 22) (bm 23 1 10 (o 25 (.gE (.binOp .quo 3 24 (k 4) 3) 3)) (ax .mul 25 2) (aI (eu 23 26) 13 27) (bm 28 1 10 (o 30 (.gE (.binOp .quo 3 29 (k 4) 3) 3)) (ax .mul 30 3) (aI (eu 28 31) 14 32) (S (bx 33 10 .geq 33 8 (aE 34 (S (bx 35 10 .geq 35 50 (aE 36 (bm 37 0 12 (dm 39) (o 40 (.call 365 [37,38,11,39])) (am 12 40) (bm 41 0 13 (dm 43) (o 44 (.call 365 [41,42,11,43])) (am 13 44) (dk 45 0 (m 46 14) (dm 47) (o 48 (.call 365 [45,46,11,47])) (am 14 48)))))) (dk 49 0 (dE 50) (m 51 13) (m 52 14) (cG 53 3 (o 54 (.call 366 [49,50,51,52,11,53])) 13 54))))) (aC (ld 55 11) (B 0 (af (bk 58 .eql 55 0) (m 57 58) [] (N 57 (ao 59 13 (m 8 59) (ah 9 1) .ret) (af (bk 61 .eql 55 12) (m 60 61) [] (N 60 (ao 62 13 (m 8 62) (ah 9 2) .ret) (ao 56 13 (m 8 56) (dy 9) .ret)))))))))))))
def ZqT:List Ze:=[(.aW 8),(.aW 9)]
def Zxz:aU Tryz.prog 340 4 ZjH ZqT:=fN [] Tryz.func340
def Zjv:Zc:=bZ 1 (.eE 1 [1,7,8,12,13] 0) 2 (aK (dS 7 0 1 4 7 (dN 8) (aO 9) (ag (dx 10 3)) (eS 11 2)) (dS 12 0 1 4 12 (dN 13) (aO 14) (dy 16) (cX 0 17 17 16 15 1 (ae (ia 18 3 14 16) (bB 3 18) (du (.eC 4 [4,20,24,42,51] [s0,z0,z0])) (bo 4 3 19) [] (aK (dY 20 0 4 21 (ax .eql 22 0) [] (eS 23 2)) (dY 24 0 4 25 (bY 27) [] (cX 2 28 28 27 26 3 (an 29 27 (ia 30 1 25 27) (aJ 30) (m 5 29) (am 6 31) (B 4 (eK 33 1 5 (dW 34) 202 33 (o 36 (.not 35)) (am 32 36) (N 32 (aB 2 6 .ret) (an 38 5 (dx 38 0) (aL 39) (bX 40 6) (a8 (gt 40 42 (.fH 0 4)) (gt 40 43 (.gO 4 none 42)) (mt 40 44 5) (gt 40 45 (.fV .sub 44 (k 1))) (gt 40 46 (.gC 1 43 45)) (gt 40 47 (.ld none 46)) (gt 40 48 (.fV .leq 41 47)) (bw 40 48) (am 37 49)) (eS 37 7)))))) 50 27 1 27 50)) (aX 51 1 4 (l 52 4 2 51) (o 53 (.call 143 [52,(k 0),(k 80)])) (o 54 (.not 53)) [] (eS 54 1)))) 55 16 1 16 55)) (cB 2))
def ZqH:List Ze:=[(.aW 2)]
def Zxn:aU Tryz.prog 410 1 Zjv ZqH:=fN [(1,1),(4,4),(7,1),(8,1),(12,1),(13,1),(20,4),(24,4),(42,4),(51,4)] Tryz.func410
