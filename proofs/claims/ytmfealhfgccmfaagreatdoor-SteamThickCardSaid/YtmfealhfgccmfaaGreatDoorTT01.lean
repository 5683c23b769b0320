import Derived.Test.YtmfealhfgccmfaaGreatDoorTT00
set_option linter.all false
set_option maxHeartbeats 8000000
set_option maxRecDepth 100000
def tX{G:Prop}(h:G:=by refine Y ?_;exact⟨rfl,.no (by decide) λh=>by have:=h.n;omega⟩):G:=h
def vP{G:Prop}(h:G:=by subst this;rw[qAh]at hI;refine Y ?_;exact⟨rfl,.QT ⟨O,hI⟩⟩):G:=h
def AQ{G:Prop}(h:G:=by refine Y ?_;exact⟨rfl,.no (by decide) (vX λh=>by have:=h.2.2;omega)⟩):G:=h
def AP{G:Prop}(h:G:=by refine Y ?_;exact⟨rfl,.no (by decide) (vX λh=>h6 h.2.1)⟩):G:=h
section
open Go Go.LL Go.Conc Go.ConcM
namespace Go.Proofs.YtmfealhfgccmfaaGreatDoor
def QO:Tryz.pinned.checked.prog.funcNamed Rows.steamThickRow.func=some 6:=U
def Gu:(Rows.steamThickRow.inPlace == Tryz.pinned.checked.prog.inPlace 6)=true:=U
def Gv:(Rows.steamThickRow.unfollowed == Tryz.pinned.checked.prog.unfollowed 6)=true:=U
def QP:(Rows.steamThickRow.recurses == Tryz.pinned.checked.prog.recurses 6)=true:=U
def Gw:(Rows.steamThickRow.named == Tryz.pinned.checked.prog.varsNamed 6)=true:=U
def Gt:joinedFacts Tryz.pinned.checked.prog 6 Tryz.f6 Rows.steamThickSpec Rows.steamThickRow=true:=by unfold joinedFacts;exact fQ (fQ (fQ (fQ (fQ (fQ (fQ (fQ (fQ (fQ (fQ (fQ (fQ (fQ (fQ (fQ (fQ (fQ (fQ (fQ (fQ (fQ (fQ (fQ (fQ (fQ (fQ (fQ (fQ (fQ (fQ U Kj) uZ) U) U) U) U) U) U) Gu) Gv) QP) Gw) U) U) U) U) U) U) U) U) U) U) U) sP) sQ) U) U) U) U) U) U
def Gx:Tryz.f6.isInstance Tryz.pinned.checked.prog Rows.steamThickRow.origin Rows.steamThickRow.targs:=of_decide_eq_true U
def Gy:Tryz.f6.isWrapper Tryz.pinned.checked.prog Rows.steamThickRow.wrapper Rows.steamThickRow.mainSum:=by unfold Func.isWrapper;first | (rw[qAa (by decide +kernel)];kernel_rfl) | (rw[iF (by decide +kernel)];exact⟨rfl,rfl⟩)
end Go.Proofs.YtmfealhfgccmfaaGreatDoor
end
open Go Go.LL
namespace Go.Proofs
section
variable{v:Value}{n:Int}
def QR(H:Hp):Prop:=aM H ⟨2,0,none⟩ [vf 401,vf 402,vf 403]
structure mH where
 (h lo hi:Int)
structure zI where
 (fr to lo hi:Int)
structure rN where
 (h lg:Int) (fit:Bool)
instance:Enc mH:=⟨3,λp=>[vi p.h,vi p.lo,vi p.hi],λ_=>rfl⟩
instance:Enc zI:=⟨4,λp=>[vi p.fr,vi p.to,vi p.lo,vi p.hi],λ_=>rfl⟩
instance:Enc rN:=⟨3,λp=>[vi p.h,vi p.lg,vb p.fit],λ_=>rfl⟩
structure jV where
 (pk:Int) (pt:List mH) (tp:List zI) (sk:List rN)
def gJ(H:Hp)(v:Value)(f:jV):Prop:=∃a c1 c c2 e c3,v=.agg #[vi f.pk,.slice a f.pt.length c1,.slice c f.tp.length c2,.slice e f.sk.length c3]/\dF H (.slice a f.pt.length c1) f.pt/\dF H (.slice c f.tp.length c2) f.tp/\dF H (.slice e f.sk.length c3) f.sk
def gJ.inc{H H':Hp}{f:jV}(h:gJ H v f)(i:fI H H'):gJ H' v f:=by obtain⟨a,c1,c,c2,e,c3,g,h1,h2,j⟩:=h;exact⟨a,c1,c,c2,e,c3,g,h1.inc i,h2.inc i,j.inc i⟩
def rU(p:mH):Prop:=(0<=p.h/\p.h<=959)/\(0<=p.lo/\p.lo<=p.hi/\p.hi<=959)/\p.hi-p.lo<3
structure iH(l:List mH):Prop where
 n:2<=l.length/\l.length<=5
 pt:∀p∈l,rU p
 up:∀i (h:i+1<l.length),l[i].h<l[i+1].h
def kD(l:List mH):Int:=(l.getD 0 ⟨0,0,0⟩).h
def jY(l:List mH):Int:=(l.getD (l.length-1) ⟨0,0,0⟩).h
def oF(n:Nat)(t:zI):Prop:=((0<=t.fr/\t.fr<=(n:Int)-1)/\(0<=t.to/\t.to<=(n:Int)-1))/\t.fr<t.to/\(0<=t.lo/\t.lo<=t.hi/\t.hi<=9999)
def oE(l:List mH)(s:rN):Prop:=(kD l<=s.h/\s.h<=jY l)/\(0<=s.lg/\s.lg<=959)
structure rH(k:Nat)(l:List zI):Prop where
 n:l.length<=3
 t:∀t∈l,oF k t
structure rG(l:List mH)(m:List rN):Prop where
 n:m.length<=3
 s:∀s∈m,oE l s
structure yI(f:jV):Prop where
 pk:0<=f.pk/\f.pk<=20
 pt:iH f.pt
 tp:rH f.pt.length f.tp
 sk:rG f.pt f.sk
def x9.QT{F:Prop}(h:F):x9 (vi 0) F:=⟨0,rfl,λ_=>h,λ_=>rfl⟩
section
variable{P:fP}[Tz P][Loud P]{H:Hp}
def Cz{f:jV}(j:gJ H v f)(q:1<=f.pt.length/\f.pt.length<=1000):LL.Zb P 186 #[v,vi n] H λv e=>H=e/\v=vb (decide (kD f.pt<=n/\n<=jY f.pt)):=by obtain⟨k,c1,l,c2,o,c3,rfl,h1,h2,p⟩:=j;have g:kD f.pt=(f.pt[0]'O).h:=qAx mH.h (ZG O _);have i:jY f.pt=(f.pt[f.pt.length-1]'O).h:=qAx mH.h (ZG O _);have el:((f.pt.length:Int)-1)=((f.pt.length-1:Nat):Int):=O;refine aU.m (fO Wfu) rfl ?_;unfold I7;refine Y ?_;refine ZB 0 h1 O λa c=>Y ?_;refine Zh (OL _) rfl (by rw[add_zero];exact YN (cs:=[vi (f.pt[0]'O).h]) (ds:=[vi (f.pt[0]'O).lo,vi (f.pt[0]'O).hi]) c) (Y ?_);rw[el];refine ZB (f.pt.length-1) h1 O λa c=>Y ?_;refine Zh (OL _) rfl (by rw[add_zero];exact YN (cs:=[vi (f.pt[f.pt.length-1]'O).h]) (ds:=[vi (f.pt[f.pt.length-1]'O).lo,vi (f.pt[f.pt.length-1]'O).hi]) c) (Y ?_);refine Zo (O2 _ _ _) (Y ?_);exact⟨rfl,by rw[g,i];rfl⟩
def M8{f:jV}(c:gJ H v f)(j:f.pt.length<=1000):LL.Zb P 185 #[v,vi n] H λv a=>H=a/\v=vb (decide (0<=n/\n<=(f.pt.length:Int)-1)):=by obtain⟨e,c1,g,c2,h,c3,rfl,h1,h2,i⟩:=c;refine aU.m (fO Wfv) rfl ?_;unfold E0;refine Y ?_;refine Zo (O2 _ _ _) (Y ?_);exact⟨rfl,rfl⟩
def De{q:Value}{l:List mH}(g:dF H q l)(D:l.length<=1000):LL.Zb P 115 #[q] H λv k=>H=k/\x9 v (iH l):=by
 refine aU.m (fO WfK) rfl ?_;unfold JR;refine Y ?_;refine YH g rfl (Y ?_);refine Zo (O2 _ _ _) ?_;refine OJ (λh1=>?_) (λh1=>?_)
 ·exact tX
 refine Y ?_;refine ZC l.length (λj k=>H=k/\(∀p∈l.take j,rU p)/\∀i (e:i+1<j) (h:i+1<l.length),l[i].h<l[i+1].h) (λj=>[(0,q),(3,vi j)]) (λ_=>[]) ⟨rfl,by simp,O⟩ V trivial ?_;rintro j _ C ⟨rfl,u,x⟩;refine Y ?_;refine YH g rfl ?_;refine OJ (λh2=>?_) (λh2=>?_)
 ·have c:j<l.length:=O;have vX:¬ rU l[j]->¬ iH l:=λh o=>h (o.pt _ (iN c));refine Y ?_;refine ZB j g c λa f=>Y ?_;refine Zh (OL _) rfl (by rw[add_zero];exact YN (cs:=[vi l[j].h]) (ds:=[vi l[j].lo,vi l[j].hi]) f) (Y ?_);refine Zo (O2 _ _ _) ?_;refine OJ (λs=>?_) (λs=>?_)
  ·refine Y ?_;exact⟨rfl,.no (by decide) (vX λh=>s h.1)⟩
  refine OB ?_;refine VD (ι:=Unit) (λ_ k=>H=k/\∀i (e:i+1<j+1) (h:i+1<l.length),l[i].h<l[i+1].h) (λ_=>[(0,q),(3,vi j)]) (λ_=>[]) ?_ ?_
  ·refine OJ (λA=>?_) (λA=>?_)
   ·obtain⟨t,rfl⟩:∃t,j=t+1:=⟨j-1,O⟩;have z:((t+1:Nat):Int)-1=(t:Int):=O;refine Y ?_;refine ZB (t+1) g c λa f=>Y ?_;refine Zh (OL _) rfl (by rw[add_zero];exact YN (cs:=[vi l[t+1].h]) (ds:=[vi l[t+1].lo,vi l[t+1].hi]) f) (Y ?_);rw[z];refine ZB t g O λa f=>Y ?_;refine Zh (OL _) rfl (by rw[add_zero];exact YN (cs:=[vi (l[t]'O).h]) (ds:=[vi (l[t]'O).lo,vi (l[t]'O).hi]) f) ?_;refine OJ (λB=>?_) (λB=>?_)
    ·refine Y ?_;exact⟨rfl,.no (by decide) λh=>by have:=h.up t c;omega⟩
    refine Y ?_;exact⟨(),⟨rfl,λi e h=>by
     rcases qAv.1 e with o | o
     ·exact x i o h
     obtain rfl:i=t:=O;omega⟩,V,trivial,rfl⟩
   refine Y ?_;exact⟨(),⟨rfl,λi e h=>O⟩,V,trivial,rfl⟩
  rintro _ _ ⟨rfl,w⟩;refine Y ?_;refine ZB j g c λa f=>Y ?_;refine Zn (cs:=[vi l[j].lo,vi l[j].hi]) (OL _) rfl (mG f rfl) rfl (Y ?_);refine Zo (CA _ _ _ _) ?_;refine OJ (λh6=>?_) (λh6=>?_)
  ·exact AP
  refine OJ (λh7=>?_) (λh7=>?_)
  ·exact AQ
  refine Y ?_;exact⟨⟨j+1,O⟩,gI O,⟨rfl,HE c u ⟨s,h6,O⟩,w⟩,V,trivial,rfl⟩
 have:j=l.length:=O;subst this;rw[qAh]at u;refine Y ?_;exact⟨rfl,.QT ⟨O,u,λi e=>x i e e⟩⟩
end
end
section
open Go.Conc Go.ConcM
open YtmfealhfgccmfaaGreatDoor Go.ChangeShapes Go.WideShapes
def Dv:Tryz.prog.cellsOf 4=1:=U
def Dw:Tryz.prog.cellsOf 84=1:=U
def Dx:Tryz.prog.cellsOf 85=1:=U
def Dy:Tryz.prog.cellsOf 86=1:=U
def Cm:Tryz.prog.cellsOf 88=4:=U
def M4:Tryz.prog.cellsOf 91=3:=U
def M2:Tryz.prog.cellsOf 212=3:=U
def M3:Tryz.prog.cellsOf 217=4:=U
section
variable{H:Type}{enc:TypeId×Value->H}{W:World}{base:Nat}{sp:Nat->Bool}{held:Bool}{fuel:Nat}{cs:List Value}{y:DataW H×List MemPlace}{r:Reach}{b0:Nat}{v:Value}{d:DataW H}{ps:List MemPlace}
def Wf3(h:DataW.trod enc Tryz.prog W base sp held fuel 4 cs=some y):∃b,cs=[vb b]:=by obtain⟨b,h,_⟩:=DataW.trod_bool Tryz.underlying4 h;exact⟨b,h⟩
def Dm(h:DataW.trod enc Tryz.prog W base sp held fuel 212 cs=some y):∃x:mH,cs=Enc.enc x:=by
 obtain⟨xs,n,rfl,_,m,o,l⟩:=DataW.trod_struct Tryz.underlying212 h;rw[M2]at m;obtain⟨s,p⟩:=VI (xs:=xs) (i:=0) (by rw[o];decide);obtain⟨t,h1⟩:=VI (xs:=xs) (i:=1) (by rw[o];decide);have j:DataW.trod enc Tryz.prog W base sp held n 3 ((cs.drop 0).take (Tryz.prog.cellsOf 3))=xs[0]?:=l 0 _ rfl;have k:DataW.trod enc Tryz.prog W base sp held n 31 ((cs.drop 1).take (Tryz.prog.cellsOf 31))=xs[1]?:=l 1 _ rfl;rw[p]at j;rw[h1]at k;obtain⟨a,g⟩:=OO j;obtain⟨b,c,hb⟩:=CC k;rw[u4]at g;rw[CD]at hb;have g:=UD g;have e:=qAx (·[0]?) hb;have f:=qAx (·[1]?) hb;simp[qBv,qBq]at e f;refine⟨⟨a,b,c⟩,u6 m λi q=>?_⟩;match i,q with
 | 0,_=>exact g
 | 1,_=>exact e
 | 2,_=>exact f
def Bq(h:DataW.trod enc Tryz.prog W base sp held fuel 217 cs=some y):∃x:zI,cs=Enc.enc x:=by
 obtain⟨xs,n,rfl,_,s,m,l⟩:=DataW.trod_struct Tryz.underlying217 h;rw[M3]at s;obtain⟨w,t⟩:=VI (xs:=xs) (i:=0) (by rw[m];decide);obtain⟨z,h1⟩:=VI (xs:=xs) (i:=1) (by rw[m];decide);obtain⟨A,h2⟩:=VI (xs:=xs) (i:=2) (by rw[m];decide);have o:DataW.trod enc Tryz.prog W base sp held n 3 ((cs.drop 0).take (Tryz.prog.cellsOf 3))=xs[0]?:=l 0 _ rfl;have p:DataW.trod enc Tryz.prog W base sp held n 3 ((cs.drop 1).take (Tryz.prog.cellsOf 3))=xs[1]?:=l 1 _ rfl;have q:DataW.trod enc Tryz.prog W base sp held n 31 ((cs.drop 2).take (Tryz.prog.cellsOf 31))=xs[2]?:=l 2 _ rfl;rw[t]at o;rw[h1]at p;rw[h2]at q;obtain⟨a,j⟩:=OO o;obtain⟨g,k⟩:=OO p;obtain⟨b,c,hb⟩:=CC q;rw[u4]at j k;rw[CD]at hb;have j:=UD j;have k:=UD k;have e:=qAx (·[0]?) hb;have f:=qAx (·[1]?) hb;simp[qBv,qBq]at e f;refine⟨⟨a,g,b,c⟩,u6 s λi u=>?_⟩;match i,u with
 | 0,_=>exact j
 | 1,_=>exact k
 | 2,_=>exact e
 | 3,_=>exact f
def HS(h:DataW.trod enc Tryz.prog W base sp held fuel 91 cs=some y):∃x:rN,cs=Enc.enc x:=by
 obtain⟨xs,n,rfl,_,o,j,f⟩:=DataW.trod_struct Tryz.underlying91 h;rw[M4]at o;obtain⟨s,p⟩:=VI (xs:=xs) (i:=0) (by rw[j];decide);obtain⟨t,h1⟩:=VI (xs:=xs) (i:=1) (by rw[j];decide);obtain⟨u,h2⟩:=VI (xs:=xs) (i:=2) (by rw[j];decide);have k:DataW.trod enc Tryz.prog W base sp held n 3 ((cs.drop 0).take (Tryz.prog.cellsOf 3))=xs[0]?:=f 0 _ rfl;have l:DataW.trod enc Tryz.prog W base sp held n 3 ((cs.drop 1).take (Tryz.prog.cellsOf 3))=xs[1]?:=f 1 _ rfl;have m:DataW.trod enc Tryz.prog W base sp held n 4 ((cs.drop 2).take (Tryz.prog.cellsOf 4))=xs[2]?:=f 2 _ rfl;rw[p]at k;rw[h1]at l;rw[h2]at m;obtain⟨a,c⟩:=OO k;obtain⟨g,e⟩:=OO l;obtain⟨b,hb⟩:=Wf3 m;rw[u4]at c e;rw[Dv]at hb;have c:=UD c;have e:=UD e;have hb:=UD hb;refine⟨⟨a,g,b⟩,u6 o λi q=>?_⟩;match i,q with
 | 0,_=>exact c
 | 1,_=>exact e
 | 2,_=>exact hb
theorem Dd(h:DataW.trod enc Tryz.prog W base sp held fuel 88 cs=some y):∃f:jV,gJ (oX W) (.agg cs.toArray) f:=by
 obtain⟨xs,n,rfl,_,u,l,k⟩:=DataW.trod_struct Tryz.underlying88 h;rw[Cm]at u;obtain⟨I,B⟩:=VI (xs:=xs) (i:=0) (by rw[l];decide);obtain⟨J,h1⟩:=VI (xs:=xs) (i:=1) (by rw[l];decide);obtain⟨K,h2⟩:=VI (xs:=xs) (i:=2) (by rw[l];decide);obtain⟨L,C⟩:=VI (xs:=xs) (i:=3) (by rw[l];decide);have q:DataW.trod enc Tryz.prog W base sp held n 3 ((cs.drop 0).take (Tryz.prog.cellsOf 3))=xs[0]?:=k 0 _ rfl;have s:DataW.trod enc Tryz.prog W base sp held n 84 ((cs.drop 1).take (Tryz.prog.cellsOf 84))=xs[1]?:=k 1 _ rfl;have t:DataW.trod enc Tryz.prog W base sp held n 85 ((cs.drop 2).take (Tryz.prog.cellsOf 85))=xs[2]?:=k 2 _ rfl;have f3:DataW.trod enc Tryz.prog W base sp held n 86 ((cs.drop 3).take (Tryz.prog.cellsOf 86))=xs[3]?:=k 3 _ rfl;rw[B]at q;rw[h1]at s;rw[h2]at t;rw[C]at f3;obtain⟨a,j⟩:=OO q;obtain⟨E,c,l1,x⟩:=yB (α:=mH) Tryz.underlying84 M2 (show 0<3 by decide) (λh=>Dm h) s;obtain⟨F,e,l2,z⟩:=yB (α:=zI) Tryz.underlying85 M3 (show 0<4 by decide) (λh=>Bq h) t;obtain⟨G,g,w,A⟩:=yB (α:=rN) Tryz.underlying86 M4 (show 0<3 by decide) (λh=>HS h) f3;obtain⟨m,c1,rfl,_⟩:=id x;obtain⟨o,c2,rfl,_⟩:=id z;obtain⟨p,c3,rfl,_⟩:=id A;rw[u4]at j;rw[Dw]at c;rw[Dx]at e;rw[Dy]at g;have j:=UD j;have c:=UD c;have e:=UD e;have g:=UD g;refine⟨⟨a,l1,l2,w⟩,m,c1,o,c2,p,c3,?_,x,z,A⟩;have:cs=[vi a,.slice m l1.length c1,.slice o l2.length c2,.slice p w.length c3]:=u6 u λi D=>by
  match i,D with
  | 0,_=>exact j
  | 1,_=>exact c
  | 2,_=>exact e
  | 3,_=>exact g
 rw[this]
def Dc(a:Value.okWide Tryz.prog W r b0 88 v)(e:DataW.Trod enc Tryz.prog W base sp held 88 v d ps):∃f:jV,gJ (oX W) v f:=by obtain⟨fuel,g⟩:=e;obtain⟨c,rfl⟩:=L6 Tryz.underlying88 a;obtain⟨m,h1⟩:=Dd g;exact⟨m,by simpa[Value.cells]using h1⟩
def Bn(a:Value.okWide Tryz.prog W r b0 91 v)(e:DataW.Trod enc Tryz.prog W base sp held 91 v d ps):∃k:rN,v=.agg #[vi k.h,vi k.lg,vb k.fit]:=by obtain⟨fuel,f⟩:=e;obtain⟨c,rfl⟩:=L6 Tryz.underlying91 a;obtain⟨x,g⟩:=HS f;obtain⟨c⟩:=c;exact⟨x,by simpa[Value.cells,Enc.enc]using g⟩
def Hj(a:Value.okWide Tryz.prog W r b0 89 v)(c:DataW.Trod enc Tryz.prog W base sp held 89 v d ps):∃n,v=.int .u16 n/\0<=n/\n<65536:=by obtain⟨n,rfl,_,_,e⟩:=open_int Tryz.underlying89 a c;simp only[Lit.wf,qAc,qAK]at e;have h1:IntKind.u16.min=0:=rfl;have h2:IntKind.u16.max=65535:=rfl;exact⟨n,rfl,O,O⟩
end
end
section
open Go.Conc Go.ConcM
open YtmfealhfgccmfaaGreatDoor
def y6:J4:=[("ribband/frame.checks",Rows.laid_ribband_frame_checks),("ribband/steam.checks",Rows.laid_ribband_steam_checks),("ribband/steam.first",Rows.laid_ribband_steam_first)]
def BB:Tryz.prog.globalNamed "ribband/frame.checks" = some 2:=U
def zY:(Tryz.prog.globals[2]?).map (·.type)=some 305:=U
def Dt:Tryz.prog.cellsOf 305=3:=U
def Du:Tryz.prog.cellsOf 227=1:=U
def Cn(os:Os)(args:Array Value):laidMetH Tryz.prog y6 ((World.doorLaid Tryz.prog 600 os).forCall (λ_ _=>0) ⟨#[],args,[]⟩).memory:=
 laidMetH_of_parts3 (fuel:=8) (laidMet_of_run' 8 U U) U U
set_option maxRecDepth 100000 in
def Bv{W:World}{L:J4}(J:("ribband/frame.checks",Rows.laid_ribband_frame_checks)∈L)(h:laidMetH Tryz.prog L W):QR (oX W):=by
 obtain⟨g,t,cs,fuel,p,z,M,N,G⟩:=h.funcs J;obtain rfl:=aT (BB.symm.trans z);obtain rfl:=aT (zY.symm.trans M);obtain⟨xs,n,rfl,O,A,K,x⟩:=DataW.trod_array Tryz.underlying305 G;rw[Dt]at A;have s:=x 0 (by decide);have u:=x 1 (by decide);have w:=x 2 (by decide);rw[Du]at s u w;obtain⟨D,E,F,rfl⟩:∃a b c,xs=[a,b,c]:=by
  match xs,K with
  | [a,b,c],_=>exact⟨a,b,c,rfl⟩
 obtain⟨c0,c1,c2,i⟩:∃a b c,cs.toList=[a,b,c]:=by
  match h:cs.toList,A with
  | [a,b,c],_=>exact⟨a,b,c,rfl⟩
 rw[i]at s u w;have l:DataW.agg [.held [40,114,105,98,98,97,110,100,47,102,114,97,109,101,46,98,111,111,107,41,46,112,111,105,110,116,115],.held [40,114,105,98,98,97,110,100,47,102,114,97,109,101,46,98,111,111,107,41,46,116,97,112,101,115],.held [40,114,105,98,98,97,110,100,47,102,114,97,109,101,46,98,111,111,107,41,46,115,116,105,99,107,115]]=DataW.agg [D.1,E.1,F.1]:=(Prod.mk.inj O).1;simp only[DataW.agg.injEq,qBg,qCw]at l;obtain⟨k0,k1,B⟩:=l;obtain⟨Q,z0⟩:=D;obtain⟨R,T⟩:=E;obtain⟨S,V⟩:=F;dsimp only at k0 k1 B;subst k0 k1 B;obtain rfl:=Go.func_of_trod (f0:=401) Tryz.underlying227 U s;obtain rfl:=Go.func_of_trod (f0:=402) Tryz.underlying227 U u;obtain rfl:=Go.func_of_trod (f0:=403) Tryz.underlying227 U w;have k:cs=#[vf 401,vf 402,vf 403]:=by rw[<-qBT (xs:=cs),i]
 subst k;have m:=World.var?_cell z N;obtain⟨_,o,q,_⟩:=V4 (m 0);refine⟨rfl,o,false,by rw[MD];rw[q];rfl,λj I=>?_⟩;match j,I with
 | 0,_=>obtain⟨_,C,e,f⟩:=V4 (m 0);rw[q]at e;obtain rfl:=aT e;exact f
 | 1,_=>obtain⟨_,C,e,f⟩:=V4 (m 1);rw[q]at e;obtain rfl:=aT e;exact f
 | 2,_=>obtain⟨_,C,e,f⟩:=V4 (m 2);rw[q]at e;obtain rfl:=aT e;exact f
end
variable{l1 h1 l2 h2:Int}{v:Value}
theorem uL(b:Sb){i:Nat}(lo hi:Int)(h:i<b.pk.length)(j:Nat):gA (VH b i lo hi) j=if j=i then{ gA b i with lo:=lo,hi:=hi }else gA b j:=by
 show(b.pk.set i _).getD j _=_;rw[qAp,qDR];by_cases e:j=i
 ·subst e;simp[h]
 rw[iF (qAo e),iF e];rfl
def qE(b:Sb)(i:Nat)(c a:Int):(VH b i c a).pk.length=b.pk.length:=qAe
def vA{b:Sb}{i:Nat}{f c:Int}(o:b.pk.length<=4)(a:i<b.pk.length)(h1:(gA b i).lo<=f)(h2:c<=(gA b i).hi) :
  Za (VH b i f c)=(Za b).filter λt=>decide (f<=t.get i/\t.get i<=c):=by
 have q:=qE b i f c;refine Kh (CE O) ((CE o).filter _) λx=>?_;rw[jW O,qAu,jW o,Xz,Xz,q];have s:hV (VH b i f c) x=hV b x:=rfl;rw[s,qAN];constructor
 ·rintro⟨⟨g,k⟩,l⟩;have h:=g i a;rw[uL _ _ _ a,qAa rfl]at h;refine⟨⟨⟨λj m=>?_,k⟩,l⟩,h⟩;by_cases e:j=i
  ·subst e;exact⟨qCM h1 h.1,qCM h.2 h2⟩
  have:=g j m;rwa [uL _ _ _ a,iF e]at this
 rintro⟨⟨⟨g,k⟩,l⟩,p⟩;refine⟨⟨λj m=>?_,k⟩,l⟩;rw[uL _ _ _ a];split
 ·rename_i e;rw[e];exact p
 exact g j m
theorem EW{l:List Pk}{i:Nat}(lo hi:Int)(h:i<l.length)(j:Nat)(a:j<(l.set i { l[i]with lo:=lo,hi:=hi }).length):(l.set i { l[i]with lo:=lo,hi:=hi })[j].nm=(l[j]'(by simpa using a)).nm:=by
 rw[qDu];split
 ·rename_i e;subst e;rfl
 rfl
def Hd{b:Sb}(ok:gY b){i:Nat}{lo hi:Int}(h:i<b.pk.length)(h1:(gA b i).lo<=lo)(h2:lo<=hi)(t:hi<=(gA b i).hi):gY (VH b i lo hi):=by
 have e:gA b i=b.pk[i]:=ZG h _;have w:=ok.pk i h;rw[e]at h1 t;have p:(VH b i lo hi).pk=b.pk.set i { b.pk[i]with lo:=lo,hi:=hi }:=by show b.pk.set i _=_;rw[e]
 have a:(VH b i lo hi).pk.length=b.pk.length:=qE b i lo hi;refine⟨ok.pl,ok.hd,ok.td,by rw[a];exact ok.n,λj g=>?_,λj g=>?_,ok.nn,by rw[a];exact ok.nt⟩
 ·have f:j<b.pk.length:=by rw[<-a];exact g
  have m:=ok.pk j f;simp only[p,qDu];split
  ·rename_i q;subst q;show(1<=lo/\lo<=hi/\hi<=20)/\hi-lo<3/\_;exact⟨⟨O,h2,O⟩,O,w.2.2⟩
  exact m
 have f:j<b.pk.length:=by rw[<-a];exact g
 obtain⟨s,o⟩:=ok.nm j f;simp only[p];rw[EW lo hi h j (by rw[qAe];exact f)];refine⟨s,?_⟩;rw[List.any_eq_false]at o ⊢;intro x z;obtain⟨k,u,rfl⟩:=qAz.1 z;rw[qAs,qAe]at u;rw[qDp,EW lo hi h k (by rw[qAe];omega)];have l:k<(b.pk.take j).length:=by rw[qAs];omega
 have:=o _ (iN l);rw[qDp]at this;exact this
def lH(b:Sb)(i:Nat)(a:Int):Int:=max (gA b i).lo a
def lI(b:Sb)(i:Nat)(a:Int):Int:=min (gA b i).hi a
def uD(b:Sb)(i:Nat)(c a:Int):Int:=if lI b i a<lH b i c then 9 else bS (VH b i (lH b i c) (lI b i a))
def He{b:Sb}(ok:gY b){i:Nat}(h:i<b.pk.length){c a:Int}(h1:1<=c/\c<=a/\a<=20):Vy b i c a=uD b i c a:=by
 rw[Vy,O9 ok,iF (by decide),ZhW h,iF (by decide),iF (λe=>e h1),qAL,uD];show(if lI b i a<lH b i c then 9 else Y9 (VH b i (lH b i c) (lI b i a)))=_;by_cases g:lI b i a<lH b i c
 ·rw[qAa g,qAa g]
 have:(gA b i).lo<=lH b i c:=Int.le_max_left _ _;have:lI b i a<=(gA b i).hi:=Int.min_le_left _ _;rw[iF g,iF g];exact pF (Hd ok h O O O)
def IV{b:Sb}{i:Nat}{c a:Int}(h:i<b.pk.length)(j:Nat):(gA (VH b i c a) j).jG=(gA b j).jG/\(gA (VH b i c a) j).jN=(gA b j).jN:=by
 rw[uL b c a h];split
 ·rename_i e;subst e;exact⟨rfl,rfl⟩
 exact⟨rfl,rfl⟩
def EN{b:Sb}{i:Nat}{a hi:Int}(h:i<b.pk.length):Zw (VH b i a hi)=Zw b:=
 Ki (qE b i a hi) rfl rfl (λj=>(IV h j).1) λj=>(IV h j).2
section
variable{P:fP}[Tz P][Loud P]{H:Hp}{b:Sb}
def NB(ok:gY b){i:Nat}(s:i<b.pk.length){f a:Int}(h1:1<=f/\f<=a/\a<=20)(hb:Zq H b)(q:Yb H) :
  LL.Zb P 61 #[b.v,vi i,.agg #[vi f,vi a]] H λv k=>fI H k/\((uD b i f a=9/\v=.tuple #[tC.v,vi 9])\/(uD b i f a=0/\lH b i f<=lI b i a/\∃j,iP (VH b i (lH b i f) (lI b i a)) j/\gY j/\Zq k j/\v=.tuple #[j.v,vi 0])):=
 LL.Zb.mono (ZzF hb ok.oI q) λv k h=>by
  rw[He ok s h1,qAL]at h;obtain⟨h2,⟨c,rfl⟩ | ⟨c,_,_,t,j,rfl,m,o,l,rfl⟩⟩:=h
  ·have e:uD b i f a=9:=by
    unfold uD bS at c ⊢;split
    ·rfl
    rename_i g;rw[iF g]at c;split
    ·rfl
    rename_i p;rw[iF p]at c;exact absurd rfl c
   rw[e];exact⟨h2,.inl ⟨rfl,rfl⟩⟩
  refine⟨h2,.inr ⟨c,?_,j,o,o.ok m,l,rfl⟩⟩;unfold uD at c;split at c
  ·exact absurd c (by decide)
  omega
end
def Bx{b o p:Sb}{i:Nat}(ok:gY b)(a:i<b.pk.length)(h:l1<=l2)(j:h2<=h1)
  (c:iP (VH b i (lH b i l1) (lI b i h1)) o) (e:iP (VH b i (lH b i l2) (lI b i h2)) p):uC o p where
 n:=by rw[e.pk,c.pk,qE,qE]
 res:=(e.res.trans (EN a)).trans (c.res.trans (EN a)).symm
 td:=by rw[e.td,c.td];rfl
 sub:=λt f=>by
  have k1:∀x,(gA b i).lo<=lH b i x:=λx=>Int.le_max_left _ _;have g:∀x,lI b i x<=(gA b i).hi:=λx=>Int.min_le_left _ _;rw[e.boats,vA ok.n.2 a (k1 _) (g _),qAu,qAN]at f;rw[c.boats,vA ok.n.2 a (k1 _) (g _),qAu,qAN];have k:lH b i l1<=lH b i l2:=by unfold lH;omega
  have l:lI b i h2<=lI b i h1:=by unfold lI;omega
  exact⟨f.1,O,O⟩
def Hg{b:Sb}{i:Nat}(ok:gY b)(a:i<b.pk.length)(f:l1<=l2)(j:h2<=h1)(h:uD b i l2 h2=0):uD b i l1 h1=0:=by
 have k:lH b i l1<=lH b i l2:=by unfold lH;omega
 have l:lI b i h2<=lI b i h1:=by unfold lI;omega
 have k1:∀x,(gA b i).lo<=lH b i x:=λx=>Int.le_max_left _ _;have e:∀x,lI b i x<=(gA b i).hi:=λx=>Int.min_le_left _ _;unfold uD at h;split at h
 ·exact absurd h (by decide)
 rename_i g;rw[EG,vA ok.n.2 a (k1 _) (e _)]at h;rw[uD,iF O,EG,vA ok.n.2 a (k1 _) (e _)];obtain⟨t,c⟩:=qBu _ h;rw[qAu,qAN]at c;exact qDi (qAu.2 ⟨c.1,decide_eq_true (show _/\_ from⟨O,O⟩)⟩)
section
variable{P:fP}[Tz P][Loud P]{H:Hp}
def Gz(D:P=PP){b:Sb}{q k o l j g:Int}(ok:gY b)(hb:Zq H b)(M:0<=q/\q<256)(T:0<=k/\k<256)(B:o<=j/\j<=g/\g<=l)(G:Yb H)(I:aM H ⟨3,0,none⟩ [vf 407]) :
  LL.Zb P 27 #[b.v,.int .u8 q,.agg #[vi o,vi l],.agg #[vi j,vi g],.int .u8 k] H λv N=>fI H N/\v=vb true:=by
 have hn:=ok.n;refine aU.m (fO Ds) rfl ?_;unfold IT Sb.v;refine Y ?_;refine VC (fU Tryz.underlying5) (fU Tryz.underlying3) rfl ?_;rw[V8 (show rY q from⟨O,O⟩)];refine Y ?_;refine HH rfl rfl O ?_;obtain⟨i,hi,S⟩:=PB (n:=b.pk.length) M.1 O;rw[S];refine Y ?_;refine Zo (vs:=[.agg #[vi o,vi l],.agg #[vi j,vi g]]) (mQ B) ?_;have c1:=jE (lo:=1) (hi:=20) B.1;have c2:=jE (lo:=1) (hi:=20) B.2.1;have c3:=jE (lo:=1) (hi:=20) B.2.2;have c4:=jJ (x:=o) (show(1:Int)<=20 by decide);have c5:=jJ (x:=l) (show(1:Int)<=20 by decide);have c6:=jJ (x:=j) (show(1:Int)<=20 by decide);have c7:=jJ (x:=g) (show(1:Int)<=20 by decide);refine Y ?_;refine Zo (vs:=[.agg #[vi o,vi l],vi 1,vi 20]) m7 ?_;refine Zz OL ?_;generalize OT o 1 20=z at *;generalize OT l 1 20=A at *;refine Y ?_;refine Zg (vs:=[b.v,vi i,.agg #[vi z,vi A]]) (NB ok hi ⟨O,O,O⟩ hb G) ?_;rintro v Q ⟨u,U⟩;obtain⟨c,s,rfl,p⟩:∃(c:Sb) (s:Int),v=.tuple #[c.v,vi s]/\((s=9/\uD b i z A=9)\/(s=0/\uD b i z A=0/\iP (VH b i (lH b i z) (lI b i A)) c/\gY c/\Zq Q c)):=by
  rcases U with⟨h,rfl⟩ | ⟨h,_,c,L,a,E,rfl⟩
  ·exact⟨tC,9,rfl,.inl ⟨rfl,h⟩⟩
  exact⟨c,0,rfl,.inr ⟨rfl,h,L,a,E⟩⟩
 refine Zz OL ?_;unfold Sb.v;refine Y ?_;refine Zo (vs:=[.agg #[vi j,vi g],vi 1,vi 20]) m7 ?_;refine Zz OL ?_;generalize OT j 1 20=a3 at *;generalize OT g 1 20=a4 at *;refine Y ?_;refine Zg (vs:=[b.v,vi i,.agg #[vi a3,vi a4]]) (NB ok hi ⟨O,O,O⟩ (hb.inc u) (aM.inc G u)) ?_;rintro v R ⟨C,V⟩;obtain⟨d,t,rfl,K⟩:∃(d:Sb) (t:Int),v=.tuple #[d.v,vi t]/\((t=9/\uD b i a3 a4=9)\/(t=0/\uD b i a3 a4=0/\iP (VH b i (lH b i a3) (lI b i a4)) d/\gY d/\Zq R d)):=by
  rcases V with⟨h,rfl⟩ | ⟨h,_,d,L,e,F,rfl⟩
  ·exact⟨tC,9,rfl,.inl ⟨rfl,h⟩⟩
  exact⟨d,0,rfl,.inr ⟨rfl,h,L,e,F⟩⟩
 refine Zz OL ?_;unfold Sb.v;refine Y ?_;refine Zg (vs:=[b.v,c.v,d.v,vi s,vi t,.int .u8 k,.int .u8 q]) (qI D ?_ T M (aM.inc G (u.trans C)) (aM.inc I (u.trans C))) ?_
 ·rcases K with⟨rfl,h2⟩ | ⟨rfl,h2,f,e,F⟩
  ·rcases p with⟨rfl,_⟩ | ⟨rfl,_⟩
   ·exact .inl ⟨rfl,.inl rfl⟩
   exact .inl ⟨rfl,.inr rfl⟩
  rcases p with⟨rfl,h1⟩ | ⟨rfl,h1,w,a,E⟩
  ·exact absurd (Hg ok hi c1 c3 h2) (by rw[h1];decide)
  have J:Za d≠[]:=by
   rw[f.boats];unfold uD at h2;split at h2
   ·exact absurd h2 (by decide)
   exact EG.1 h2
  exact .inr ⟨rfl,rfl,a,e,by rw[w.pk];exact qE b i _ _,by rw[f.pk];exact qE b i _ _,Bx ok hi c1 c3 w f,J,E.inc C,F⟩
 rintro v Z ⟨X,rfl⟩;refine Y ?_;exact⟨(u.trans C).trans X,rfl⟩
def Dg{f:jV}(s:gJ H v f)(u:f.pt.length<=1000):LL.Zb P 116 #[v] H λv k=>H=k/\x9 v (rH f.pt.length f.tp):=by
 have i:=s;obtain⟨w,c1,x,c2,z,c3,rfl,h1,h2,F⟩:=s;refine aU.m (fO WfJ) rfl ?_;unfold JS;refine OJ (λA=>?_) (λA=>?_)
 ·exact tX
 refine Y ?_;refine ZC f.tp.length (λj k=>H=k/\∀p∈f.tp.take j,oF f.pt.length p) (λj=>[(1,vi 0),(3,vi j)]) (λ_=>[(1,[vi f.pk,.slice w f.pt.length c1,.slice x f.tp.length c2,.slice z f.sk.length c3])]) ⟨rfl,by simp⟩ V V ?_;rintro j _ G ⟨rfl,hI⟩;refine OJ (λB=>?_) (λB=>?_)
 ·have g:j<f.tp.length:=O;have c:¬ oF f.pt.length f.tp[j]->¬ rH f.pt.length f.tp:=λh D=>h (D.t _ (iN g));have next:=λh=>HE g hI (p:=oF f.pt.length) h
  refine Y ?_;refine ZB j h2 g λa E=>?_;generalize f.tp[j]=t at *;refine Y ?_;refine YL (cs:=[vi t.fr,vi t.to,vi t.lo,vi t.hi]) E (Y ?_);refine Zo (M8 i u) ?_;refine OJ (λl=>?_) (λl=>?_)
  ·refine Y ?_;exact⟨rfl,.no (by decide) (c λh=>l h.1.1)⟩
  refine Y ?_;refine Zo (M8 i u) ?_;refine OJ (λo=>?_) (λo=>?_)
  ·refine Y ?_;exact⟨rfl,.no (by decide) (c λh=>o h.1.2)⟩
  refine OJ (λC=>?_) (λC=>?_)
  ·refine Y ?_;exact⟨rfl,.no (by decide) (c λh=>by have:=h.2.1;omega)⟩
  refine Y ?_;refine Zo (CA _ _ _ _) ?_;refine OJ (λq=>?_) (λq=>?_)
  ·refine Y ?_;exact⟨rfl,.no (by decide) (c λh=>q h.2.2)⟩
  refine Y ?_;exact⟨⟨j+1,O⟩,gI O,⟨rfl,next ⟨⟨l,o⟩,O,q⟩⟩,V,V,rfl⟩
 have:j=f.tp.length:=O;exact vP
def Df{f:jV}(u:gJ H v f)(D:1<=f.pt.length/\f.pt.length<=1000):LL.Zb P 117 #[v] H λv k=>H=k/\x9 v (rG f.pt f.sk):=by
 have q:=u;obtain⟨w,c1,x,c2,z,c3,rfl,h1,h2,t⟩:=u;refine aU.m (fO WfI) rfl ?_;unfold JU;refine OJ (λA=>?_) (λA=>?_)
 ·exact tX
 refine Y ?_;refine ZC f.sk.length (λj k=>H=k/\∀p∈f.sk.take j,oE f.pt p) (λj=>[(1,vi 0),(3,vi j)]) (λ_=>[(1,[vi f.pk,.slice w f.pt.length c1,.slice x f.tp.length c2,.slice z f.sk.length c3])]) ⟨rfl,by simp⟩ V V ?_;rintro j _ E ⟨rfl,hI⟩;refine OJ (λB=>?_) (λB=>?_)
 ·have e:j<f.sk.length:=O;have g:¬ oE f.pt f.sk[j]->¬ rG f.pt f.sk:=λh C=>h (C.s _ (iN e));have next:=λh=>HE e hI (p:=oE f.pt) h
  refine Y ?_;refine ZB j t e λa o=>Y ?_;refine Zh (OL _) rfl (by rw[add_zero];exact YN (cs:=[vi f.sk[j].h]) (ds:=[vi f.sk[j].lg,vb f.sk[j].fit]) o) (Y ?_);refine Zo (Cz q D) ?_;refine OJ (λi=>?_) (λi=>?_)
  ·refine Y ?_;exact⟨rfl,.no (by decide) (g λh=>by rw[decide_eq_true h.1]at i;simp at i)⟩
  refine Y ?_;refine ZB j t e λa o=>Y ?_;refine Zh (OL _) rfl (YN (cs:=[vi f.sk[j].lg]) (ds:=[vb f.sk[j].fit]) (mG o rfl)) (Y ?_);refine Zo (O2 _ _ _) ?_;refine OJ (λl=>?_) (λl=>?_)
  ·refine Y ?_;exact⟨rfl,.no (by decide) (g λh=>l h.2)⟩
  refine Y ?_;exact⟨⟨j+1,O⟩,gI O,⟨rfl,next ⟨by simpa using i,l⟩⟩,V,V,rfl⟩
 have:j=f.sk.length:=O;exact vP
def HR{f:jV}(q:gJ H v f)(j:f.pt.length<=1000):LL.Zb P 40 #[v] H λv t=>H=t/\x9 v (yI f):=by
 have a:=q;obtain⟨w,c1,x,c2,z,c3,rfl,h1,h2,A⟩:=q;refine aU.m (fO WfS) rfl ?_;unfold IE;refine Y ?_;refine Zo (O2 _ _ _) ?_;refine OJ (λi=>?_) (λi=>?_)
 ·refine Y ?_;exact⟨rfl,.no (by decide) λh=>i h.pk⟩
 refine Y ?_;refine Zg (De h1 j) ?_;rintro v _ ⟨rfl,s,rfl,k⟩;refine OJ (λc=>?_) (λc=>?_)
 ·refine Y ?_;exact⟨rfl,.no c λh=>c (k.2 h.pt)⟩
 have p:=k.1 c;have B:=p.n;refine Y ?_;refine Zg (Dg a j) ?_;rintro v _ ⟨rfl,C,rfl,o⟩;refine OJ (λg=>?_) (λg=>?_)
 ·refine Y ?_;exact⟨rfl,.no g λh=>g (o.2 h.tp)⟩
 refine Y ?_;refine Zg (Df a ⟨O,j⟩) ?_;rintro v _ ⟨rfl,u,rfl,l⟩;refine Y ?_;exact⟨rfl,u,rfl,λe=>⟨i,p,o.1 g,l.1 e⟩,λh=>l.2 h.sk⟩
def Cy{f:jV}(h:gJ H v f):LL.Zb P 110 #[v] H λv a=>H=a/\∃b,v=vb b/\(b=false->f.pt.length<=20):=by
 obtain⟨i,c1,j,c2,k,c3,rfl,h1,h2,l⟩:=h;refine aU.m (fO WfP) rfl ?_;unfold II;refine OJ (λc=>?_) (λc=>?_)
 ·refine Y ?_;exact⟨rfl,_,rfl,λe=>by simp at e⟩
 refine OJ (λg=>?_) (λg=>?_)
 ·refine Y ?_;exact⟨rfl,_,rfl,λe=>by simp at e⟩
 refine Y ?_;exact⟨rfl,_,rfl,λe=>O⟩
def Cw{f:jV}(c:gJ H v f):LL.Zb P 35 #[v] H λv g=>H=g/\∃b,v=vb b/\(b=true->yI f):=by
 have a:=c;obtain⟨i,c1,j,c2,k,c3,rfl,h1,h2,l⟩:=c;refine aU.m (fO WfX) rfl ?_;unfold HZ;refine Y ?_;refine Zg (Cy a) ?_;rintro v _ ⟨rfl,b,rfl,hb⟩;cases b with
 | true=>
  refine Y ?_;exact⟨rfl,_,rfl,λe=>by simp at e⟩
 | false=>
  refine Y ?_;refine Zg (HR a (by have:=hb rfl;omega)) ?_;rintro v _ ⟨rfl,s,rfl,h⟩;refine Y ?_;exact⟨rfl,_,rfl,λe=>h.1 (by simpa using e)⟩
end
def yF:Tryz.prog.underlying 305=some (.array 3 227):=U
def yD:Yw Tryz.prog 227=some (1,some .nilFunc,8):=U
def BO:Ym Tryz.prog 227=some none:=U
section
variable{P:fP}[Tz P][Loud P]{H:Hp}
def nQ(n c a:Int):LL.Zb P 190 #[vi n,vi c,vi a] H λv e=>H=e/\v=vb (decide (c<=n/\n<=a)):=by refine aU.m (fO Wfq) rfl ?_;unfold JB;refine OJ (λh1=>?_) (λh1=>?_)<;>refine Y ?_<;>exact⟨rfl,by simp[Y3,h1]⟩
def y0(a b e c:Int):LL.Zb P 404 #[.agg #[vi a,vi b],vi e,vi c] H λv f=>H=f/\v=vb (decide (e<=a/\a<=b/\b<=c)):=by refine aU.m (fO Bi) rfl ?_;unfold IQ;refine OJ (λh1=>?_) (λh1=>?_)<;>refine Y ?_;refine OI (λh2=>?_) (λh2=>?_)<;>refine Y ?_<;>exact⟨rfl,by simp[Y3,h1,h2]⟩;exact⟨rfl,by simp[Y3,h1]⟩
def NF{f:jV}{n:Int}(j:gJ H v f)(q:1<=f.pt.length/\f.pt.length<=1000):LL.Zb P 189 #[v,vi n] H λv e=>H=e/\v=vb (decide (kD f.pt<=n/\n<=jY f.pt)):=by obtain⟨k,c1,l,c2,o,c3,rfl,h1,h2,p⟩:=j;have g:kD f.pt=(f.pt[0]'O).h:=qAx mH.h (ZG O _);have i:jY f.pt=(f.pt[f.pt.length-1]'O).h:=qAx mH.h (ZG O _);have el:((f.pt.length:Int)-1)=((f.pt.length-1:Nat):Int):=O;refine aU.m (fO Wfr) rfl ?_;unfold JA;refine Y ?_;refine ZB 0 h1 O λa c=>Y ?_;refine Zh (OL _) rfl (by rw[add_zero];exact YN (cs:=[vi (f.pt[0]'O).h]) (ds:=[vi (f.pt[0]'O).lo,vi (f.pt[0]'O).hi]) c) (Y ?_);rw[el];refine ZB (f.pt.length-1) h1 O λa c=>Y ?_;refine Zh (OL _) rfl (by rw[add_zero];exact YN (cs:=[vi (f.pt[f.pt.length-1]'O).h]) (ds:=[vi (f.pt[f.pt.length-1]'O).lo,vi (f.pt[f.pt.length-1]'O).hi]) c) (Y ?_);refine Zo (nQ _ _ _) (Y ?_);exact⟨rfl,by rw[g,i];rfl⟩
def NG{f:jV}{n:Int}(c:gJ H v f)(j:f.pt.length<=1000):LL.Zb P 406 #[v,vi n] H λv a=>H=a/\v=vb (decide (0<=n/\n<=(f.pt.length:Int)-1)):=by obtain⟨e,c1,g,c2,h,c3,rfl,h1,h2,i⟩:=c;refine aU.m (fO Dq) rfl ?_;unfold IS;refine Y ?_;refine Zo (nQ _ _ _) (Y ?_);exact⟨rfl,rfl⟩
def Wf1{f:jV}(J:gJ H v f)(M:f.pt.length<=1000):LL.Zb P 401 #[v] H λv s=>H=s/\x9 v ((0<=f.pk/\f.pk<=20)/\iH f.pt):=by
 obtain⟨w,c1,B,c2,C,c3,rfl,A,h2,g⟩:=J;refine aU.m (fO Bf) rfl ?_;generalize f.pt=l at *;unfold IL;refine Y ?_;refine Zo (nQ _ _ _) ?_;refine OJ (λx=>?_) (λx=>?_)
 ·refine Y ?_;exact⟨rfl,.no (by decide) λh=>x h.1⟩
 refine Y ?_;refine Zo (nQ _ _ _) ?_;refine OJ (λh1=>?_) (λh1=>?_)
 ·refine Y ?_;exact⟨rfl,.no (by decide) λh=>by have:=h.2.n;omega⟩
 refine Y ?_;refine ZC l.length (λj s=>H=s/\(∀p∈l.take j,rU p)/\∀i (e:i+1<j) (h:i+1<l.length),l[i].h<l[i+1].h) (λj=>[(1,vi 0),(20,.slice w l.length c1),(21,vi l.length),(22,vi j)]) (λ_=>[(1,[vi f.pk,.slice w l.length c1,.slice B f.tp.length c2,.slice C f.sk.length c3])]) ⟨rfl,by simp,O⟩ V V ?_;rintro j _ L ⟨rfl,o,z⟩;refine OJ (λh2=>?_) (λh2=>?_)
 ·have c:j<l.length:=O;have vX:¬ rU l[j]->¬ ((0<=f.pk/\f.pk<=20)/\iH l):=λh k=>h (k.2.pt _ (iN c));refine Y ?_;refine ZB j A c λa u=>Y ?_;refine YL (cs:=[vi l[j].h,vi l[j].lo,vi l[j].hi]) u (Y ?_);refine Zo (nQ _ _ _) ?_;refine OJ (λg=>?_) (λg=>?_)
  ·refine Y ?_;exact⟨rfl,.no (by decide) (vX λh=>g h.1)⟩
  have E:∀(I:∀i (e:i+1<j+1) (h:i+1<l.length),l[i].h<l[i+1].h),True:=λ_=>trivial;refine OJ (λF=>?_) (λF=>?_)
  ·obtain⟨t,rfl⟩:∃t,j=t+1:=⟨j-1,O⟩;have D:((t+1:Nat):Int)-1=(t:Int):=O;refine Y ?_;rw[D];refine ZB t A O λa u=>Y ?_;refine Zh (OL _) rfl (by rw[add_zero];exact YN (cs:=[vi (l[t]'O).h]) (ds:=[vi (l[t]'O).lo,vi (l[t]'O).hi]) u) ?_;refine OJ (λG=>?_) (λG=>?_)
   ·refine Y ?_;exact⟨rfl,.no (by decide) λh=>by have:=h.2.up t c;omega⟩
   refine Y ?_;refine Zo (y0 _ _ _ _) ?_;refine OJ (λh6=>?_) (λh6=>?_)
   ·exact AP
   refine OJ (λh7=>?_) (λh7=>?_)
   ·exact AQ
   refine Y ?_;exact⟨⟨t+1+1,O⟩,qCh O (qCx (t+1)),⟨rfl,HE c o ⟨g,h6,O⟩,λi e h=>by
    rcases qAv.1 e with k | k
    ·exact z i k h
    obtain rfl:i=t:=O;omega⟩,V,V,rfl⟩
  refine Y ?_;refine Zo (y0 _ _ _ _) ?_;refine OJ (λh6=>?_) (λh6=>?_)
  ·exact AP
  refine OJ (λh7=>?_) (λh7=>?_)
  ·exact AQ
  refine Y ?_;exact⟨⟨j+1,O⟩,gI O,⟨rfl,HE c o ⟨g,h6,O⟩,λi e h=>by have K:i+1<j+1:=e;omega⟩,V,V,rfl⟩
 have:j=l.length:=O;subst this;rw[qAh]at o;refine Y ?_;exact⟨rfl,.QT ⟨O,⟨O,o,λi e=>z i e e⟩⟩⟩
def Ch{f:jV}{a b:Int}(i:gJ H v f)(j:f.pt.length<=1000):LL.Zb P 405 #[v,vi a,vi b] H λv k=>H=k/\x9 v (((0<=a/\a<=(f.pt.length:Int)-1)/\(0<=b/\b<=(f.pt.length:Int)-1))/\a<b):=by
 have c:=i;obtain⟨o,c1,p,c2,q,c3,rfl,h1,h2,s⟩:=i;refine aU.m (fO Dp) rfl ?_;unfold IR;refine Y ?_;refine Zo (NG c j) ?_;refine OJ (λe=>?_) (λe=>?_)
 ·refine Y ?_;exact⟨rfl,.no (by decide) λh=>e h.1.1⟩
 refine Y ?_;refine Zo (NG c j) ?_;refine OJ (λg=>?_) (λg=>?_)
 ·refine Y ?_;exact⟨rfl,.no (by decide) λh=>g h.1.2⟩
 refine OJ (λl=>?_) (λl=>?_)
 ·refine Y ?_;exact⟨rfl,.no (by decide) λh=>by have:=h.2;omega⟩
 refine Y ?_;exact⟨rfl,.QT ⟨⟨e,g⟩,O⟩⟩
def WfZ{f:jV}(w:gJ H v f)(F:f.pt.length<=1000):LL.Zb P 402 #[v] H λv k=>H=k/\x9 v (rH f.pt.length f.tp):=by
 have o:=w;obtain⟨z,c1,q,c2,A,c3,rfl,h1,h2,G⟩:=w;refine aU.m (fO Bg) rfl ?_;unfold IM;refine OJ (λB=>?_) (λB=>?_)
 ·exact tX
 refine Y ?_;refine ZC f.tp.length (λj k=>H=k/\∀p∈f.tp.take j,oF f.pt.length p) (λj=>[(1,vi 0),(13,.slice q f.tp.length c2),(14,vi f.tp.length),(15,vi j)]) (λ_=>[(1,[vi f.pk,.slice z f.pt.length c1,.slice q f.tp.length c2,.slice A f.sk.length c3])]) ⟨rfl,by simp⟩ V V ?_;rintro j _ I ⟨rfl,hI⟩;refine OJ (λC=>?_) (λC=>?_)
 ·have e:j<f.tp.length:=O;have g:¬ oF f.pt.length f.tp[j]->¬ rH f.pt.length f.tp:=λh D=>h (D.t _ (iN e));have next:=λh=>HE e hI (p:=oF f.pt.length) h
  refine Y ?_;refine ZB j h2 e λa E=>?_;generalize f.tp[j]=t at *;refine Y ?_;refine YL (cs:=[vi t.fr,vi t.to,vi t.lo,vi t.hi]) E (Y ?_);refine Zg (Ch o F) ?_;rintro v _ ⟨rfl,s,rfl,u⟩;refine OJ (λi=>?_) (λi=>?_)
  ·refine Y ?_;exact⟨rfl,.no i (g λh=>i (u.2 ⟨h.1,h.2.1⟩))⟩
  have x:=u.1 i;refine Y ?_;refine Zo (y0 _ _ _ _) ?_;refine OJ (λl=>?_) (λl=>?_)
  ·refine Y ?_;exact⟨rfl,.no (by decide) (g λh=>l h.2.2)⟩
  refine Y ?_;exact⟨⟨j+1,O⟩,gI O,⟨rfl,next ⟨x.1,x.2,l⟩⟩,V,V,rfl⟩
 have:j=f.tp.length:=O;exact vP
def Wf0{f:jV}(u:gJ H v f)(E:1<=f.pt.length/\f.pt.length<=1000):LL.Zb P 403 #[v] H λv i=>H=i/\x9 v (rG f.pt f.sk):=by
 have q:=u;obtain⟨w,c1,x,c2,t,c3,rfl,h1,h2,C⟩:=u;refine aU.m (fO Bh) rfl ?_;unfold IP;refine OJ (λz=>?_) (λz=>?_)
 ·exact tX
 refine Y ?_;refine ZC f.sk.length (λj i=>H=i/\∀p∈f.sk.take j,oE f.pt p) (λj=>[(1,vi 0),(12,.slice t f.sk.length c3),(13,vi f.sk.length),(14,vi j)]) (λ_=>[(1,[vi f.pk,.slice w f.pt.length c1,.slice x f.tp.length c2,.slice t f.sk.length c3])]) ⟨rfl,by simp⟩ V V ?_;rintro j _ F ⟨rfl,hI⟩;refine OJ (λA=>?_) (λA=>?_)
 ·have e:j<f.sk.length:=O;have g:¬ oE f.pt f.sk[j]->¬ rG f.pt f.sk:=λh B=>h (B.s _ (iN e));have next:=λh=>HE e hI (p:=oE f.pt) h
  refine Y ?_;refine ZB j C e λa D=>?_;generalize f.sk[j]=k at *;refine Y ?_;refine YL (cs:=[vi k.h,vi k.lg,vb k.fit]) D (Y ?_);refine Zo (NF q E) ?_;refine OJ (λl=>?_) (λl=>?_)
  ·refine Y ?_;exact⟨rfl,.no (by decide) (g λh=>l h.1)⟩
  refine Y ?_;refine Zo (nQ _ _ _) ?_;refine OJ (λo=>?_) (λo=>?_)
  ·refine Y ?_;exact⟨rfl,.no (by decide) (g λh=>o h.2)⟩
  refine Y ?_;exact⟨⟨j+1,O⟩,gI O,⟨rfl,next ⟨l,o⟩⟩,V,V,rfl⟩
 have:j=f.sk.length:=O;exact vP
def M6{f:jV}(z:aM H ⟨2,0,none⟩ [vf 401,vf 402,vf 403])(q:gJ H v f)(o:f.pt.length<=1000):LL.Zb P 112 #[v] H λv k=>H=k/\x9 v (yI f):=by
 have e:=q;obtain⟨t,c1,u,c2,w,c3,rfl,h1,h2,B⟩:=q;refine aU.m (fO WfN) rfl ?_;unfold JO;refine Y ?_;refine YL z (Y ?_);refine ZC 3 (λj k=>H=k/\(1<=j->(0<=f.pk/\f.pk<=20)/\iH f.pt)/\(2<=j->rH f.pt.length f.tp)/\(3<=j->rG f.pt f.sk)) (λj=>[(1,vi 0),(6,.agg #[vf 401,vf 402,vf 403]),(7,vi j)]) (λ_=>[(1,[vi f.pk,.slice t f.pt.length c1,.slice u f.tp.length c2,.slice w f.sk.length c3])]) ⟨rfl,O,O,O⟩ V V ?_;rintro j _ C ⟨rfl,g,p,x⟩;refine OJ (λA=>?_) (λA=>?_)
 ·have l:j=0\/j=1\/j=2:=O;refine Y ?_;rcases l with rfl | rfl | rfl
  ·refine uH (fU yF) (fT yD) (rD BO) rfl rfl (i:=0) O rfl (Y ?_);refine ZP rfl rfl (Yv U (Wf1 e o)) ?_;rintro v _ ⟨rfl,s,rfl,c⟩;refine OJ (λa=>?_) (λa=>?_)
   ·refine Y ?_;exact⟨rfl,.no a λh=>a (c.2 ⟨h.pk,h.pt⟩)⟩
   refine Y ?_;exact⟨⟨1,O⟩,(by show 3-1<3-0;omega),⟨rfl,λ_=>c.1 a,λh=>absurd (show 2<=1 from h) O,λh=>absurd (show 3<=1 from h) O⟩,V,V,rfl⟩
  ·refine uH (fU yF) (fT yD) (rD BO) rfl rfl (i:=1) O rfl (Y ?_);refine ZP rfl rfl (Yv U (WfZ e o)) ?_;rintro v _ ⟨rfl,s,rfl,c⟩;refine OJ (λa=>?_) (λa=>?_)
   ·refine Y ?_;exact⟨rfl,.no a λh=>a (c.2 h.tp)⟩
   refine Y ?_;exact⟨⟨2,O⟩,(by show 3-2<3-1;omega),⟨rfl,λ_=>g O,λ_=>c.1 a,λh=>absurd (show 3<=2 from h) O⟩,V,V,rfl⟩
  have D:=(g O).2.n;refine uH (fU yF) (fT yD) (rD BO) rfl rfl (i:=2) O rfl (Y ?_);refine ZP rfl rfl (Yv U (Wf0 e ⟨O,o⟩)) ?_;rintro v _ ⟨rfl,s,rfl,c⟩;refine OJ (λa=>?_) (λa=>?_)
  ·refine Y ?_;exact⟨rfl,.no a λh=>a (c.2 h.sk)⟩
  refine Y ?_;exact⟨⟨3,O⟩,(by show 3-3<3-2;omega),⟨rfl,λ_=>g O,λ_=>p O,λ_=>c.1 a⟩,V,V,rfl⟩
 have:j=3:=O;subst this;refine Y ?_;exact⟨rfl,.QT ⟨(g O).1,(g O).2,p O,x O⟩⟩
end
