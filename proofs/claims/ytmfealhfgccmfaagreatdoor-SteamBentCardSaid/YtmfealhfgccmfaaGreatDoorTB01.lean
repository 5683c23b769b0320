import Derived.Test.YtmfealhfgccmfaaGreatDoorTB00
set_option linter.all false
set_option maxHeartbeats 8000000
set_option maxRecDepth 100000
def aAu{G:Prop}(h:G:=by
  simp only[qAi,forall_eq_or_imp];constructor
  ·rintro⟨h1,h2⟩;exact⟨O,O,h2⟩
  rintro⟨h1,h2,h3⟩;exact⟨O,h3⟩):G:=h
def aAl{G:Prop}(h:G:=by refine Y ?_;exact⟨rfl,0,rfl,λ_=>⟨O,λi hi=>lZ i hi O⟩,λ_=>rfl⟩):G:=h
def aAk{G:Prop}(h:G:=by refine Y ?_;exact⟨rfl,2,rfl,λe=>O,λg=>absurd g.1 O⟩):G:=h
section
open Go Go.LL Go.Conc Go.ConcM
namespace Go.Proofs.YtmfealhfgccmfaaGreatDoor
def Hx:Tryz.pinned.checked.prog.funcNamed Rows.steamBentRow.func=some 4:=U
def Hz:(Rows.steamBentRow.inPlace == Tryz.pinned.checked.prog.inPlace 4)=true:=U
def Gs:(Rows.steamBentRow.unfollowed == Tryz.pinned.checked.prog.unfollowed 4)=true:=U
def QO:(Rows.steamBentRow.recurses == Tryz.pinned.checked.prog.recurses 4)=true:=U
def Gt:(Rows.steamBentRow.named == Tryz.pinned.checked.prog.varsNamed 4)=true:=U
def Hy:joinedFacts Tryz.pinned.checked.prog 4 Tryz.f4 Rows.steamBentSpec Rows.steamBentRow=true:=by unfold joinedFacts;exact fQ (fQ (fQ (fQ (fQ (fQ (fQ (fQ (fQ (fQ (fQ (fQ (fQ (fQ (fQ (fQ (fQ (fQ (fQ (fQ (fQ (fQ (fQ (fQ (fQ (fQ (fQ (fQ (fQ (fQ (fQ U Kj) uZ) U) U) U) U) U) U) Hz) Gs) QO) Gt) U) U) U) U) U) U) U) U) U) U) U) sP) sQ) U) U) U) U) U) U
def Gu:Tryz.f4.isInstance Tryz.pinned.checked.prog Rows.steamBentRow.origin Rows.steamBentRow.targs:=of_decide_eq_true U
def Gv:Tryz.f4.isWrapper Tryz.pinned.checked.prog Rows.steamBentRow.wrapper Rows.steamBentRow.mainSum:=by unfold Func.isWrapper;first | (rw[qAa (by decide +kernel)];kernel_rfl) | (rw[iF (by decide +kernel)];exact⟨rfl,rfl⟩)
end Go.Proofs.YtmfealhfgccmfaaGreatDoor
end
open Go Go.LL
namespace Go.Proofs
section
open Go.Conc Go.ConcM
open YtmfealhfgccmfaaGreatDoor Go.ChangeShapes Go.WideShapes
section
variable{H:Type}{enc:TypeId×Value->H}{W:World}{base:Nat}{sp:Nat->Bool}{held:Bool}{fuel:Nat}{cs:List Value}{y:DataW H×List MemPlace}{r:Reach}{b0:Nat}{v:Value}{d:DataW H}{ps:List MemPlace}
def Ho(e:Value.okWide Tryz.prog W r b0 31 v)(f:DataW.Trod enc Tryz.prog W base sp held 31 v d ps):∃a b,v=.agg #[vi a,vi b]:=by obtain⟨fuel,g⟩:=f;obtain⟨c,rfl⟩:=L6 Tryz.underlying31 e;obtain⟨a,b,h⟩:=CC g;obtain⟨c⟩:=c;exact⟨a,b,by simpa[Value.cells]using h⟩
end
end
section
variable{l:List Int}
section
variable{P:fP}[Tz P][Loud P]{H:Hp}
def WfI(a b c d:Int):LL.Zb P 24 #[.agg #[vi a,vi b],.agg #[vi c,vi d]] H λv e=>H=e/\v=.agg #[vi (max a c),vi (min b d)]:=by refine aU.m (fO c67) rfl ?_;unfold n67;refine Y ?_;refine yG rfl rfl (Y ?_);refine EH rfl rfl (Y ?_);exact⟨rfl,rfl⟩
end
def oE(H:Hp):Prop:=aM H ⟨1,0,none⟩ [vf 395,vf 396,vf 397]
structure NK where
 (lo hi:Int)
instance:Enc NK:=⟨2,λp=>[vi p.lo,vi p.hi],λ_=>rfl⟩
def lB(l:List Int):List Int:=(List.range (l.length-1)).map λi=>l.getD (i+1) 0-l.getD i 0
def qX(l:List Int):(lB l).length=l.length-1:=by simp[lB]
theorem M2{i:Nat}(h:i<l.length-1):(lB l).getD i 0=l.getD (i+1) 0-l.getD i 0:=by rw[lB,qAp,qCe,qDG h];rfl
def y7:Tryz.prog.underlying 291=some (.array 3 187):=U
def y6:Yw Tryz.prog 187=some (1,some .nilFunc,8):=U
def EW:Ym Tryz.prog 187=some none:=U
def Gz:Tryz.prog.underlying 189=some (.array 7 3):=U
def vA:Yw Tryz.prog 189=some (7,some (.agg #[vi 0,vi 0,vi 0,vi 0,vi 0,vi 0,vi 0]),56):=U
section
variable{P:fP}[Tz P][Loud P]{H:Hp}
def nQ(n e c:Int):LL.Zb P 164 #[vi n,vi e,vi c] H λv f=>H=f/\v=vb (decide (e<=n/\n<=c)):=by refine aU.m (fO Dq) rfl ?_;unfold HT;refine OJ (λh1=>?_) (λh1=>?_)<;>refine Y ?_<;>exact⟨rfl,by simp[Y3,h1]⟩
def E8{v:Value}(n:dF H v l)(J:l.length<=1000000)(p:∀z∈l,-1000000<=z/\z<=1000000):LL.Zb P 350 #[v] H λv c=>fI H c/\∃w,gL H c 3 v (lB l) w:=by
 refine aU.m (fO Bi) rfl ?_;unfold HR;refine Y ?_;refine Yp (α:=Value×Option Nat) (l.length-1) (λj s c=>fI H c/\gL H c 3 s.1 ((lB l).take j) s.2) (λj s=>[(0,v),(2,.slice none 0 0),(3,s.1),(4,vi ((j+1:Nat):Int))]) (λ_ _=>[]) (.slice none 0 0,none) ⟨.refl _,.nil _ _ _⟩ V trivial ?_;rintro j ⟨M,t⟩ C I ⟨f,g⟩;simp only at g;have o:=qX l;refine Y ?_;refine YH (n.inc f) rfl ?_;refine OJ (λh1=>?_) (λh1=>?_)
 ·have k:j<l.length-1:=O;have A:(lB l).take (j+1)=(lB l).take j++[(lB l)[j]'O]:=BY O;have x:(lB l)[j]'O=l[j+1]'O-l[j]'O:=by rw[<-ZG O 0,M2 k,ZG O,ZG O]
  have F:=p _ (iN (show j+1<l.length by omega));have G:=p _ (iN (show j<l.length by omega));refine Y ?_;refine ZB (j+1) (n.inc f) O λa h=>Y ?_;refine Z8 h (Y ?_);refine yZ (n.inc f) rfl (by rw[show(((j+1:Nat):Int)-1)=(j:Int)by omega];rfl) rfl (i:=j) O λa h=>Y ?_;refine Z8 h (Y ?_);refine Z4 (cs:=[vi (l[j+1]-l[j])]) (OL _) rfl λL e=>?_;refine Zz OL (Y ?_);refine VX (l':=[l[j+1]-l[j]]) (fU jR) (fU jR) (fT t3) rfl (by decide) (f.trans (Zt e)) (g.ins e) qK rfl (by simp only[qAs,qAW];omega) O rfl rfl (OL _) λB D u k1 q K=>?_;rw[<-x,<-A]at q;refine Y ?_;exact⟨(⟨j+1,O⟩,(B,u)),gI O,⟨k1,q⟩,V,trivial,rfl⟩
 have:j=l.length-1:=O;subst this;rw[qAH O]at g;refine Y ?_;exact⟨f,t,g⟩
def mJ(l:List Int):List Int:=lB (lB l)
def E6(l:List Int):(mJ l).length=l.length-2:=by rw[mJ,qX,qX];omega
end
end
section
open Go.Conc Go.ConcM
open YtmfealhfgccmfaaGreatDoor Go.ChangeShapes Go.WideShapes
def Cc:Tryz.prog.cellsOf 52=1:=U
section
variable{H:Type}{enc:TypeId×Value->H}{W:World}{base:Nat}{sp:Nat->Bool}{held:Bool}{fuel:Nat}{cs:List Value}{y:DataW H×List MemPlace}{r:Reach}{b0:Nat}{v:Value}{d:DataW H}{ps:List MemPlace}
def Ht(h:DataW.trod enc Tryz.prog W base sp held fuel 31 cs=some y):∃x:NK,cs=Enc.enc x:=by obtain⟨a,b,h⟩:=CC h;exact⟨⟨a,b⟩,h⟩
end
end
section
open Go.Conc Go.ConcM
open YtmfealhfgccmfaaGreatDoor
def FB:J4:=[("ribband/batten.checks",Rows.laid_ribband_batten_checks),("ribband/steam.checks",Rows.laid_ribband_steam_checks),("ribband/steam.first",Rows.laid_ribband_steam_first)]
def aAi:Tryz.prog.globalNamed "ribband/batten.checks" = some 1:=U
def aAh:(Tryz.prog.globals[1]?).map (·.type)=some 291:=U
def Bx:Tryz.prog.cellsOf 291=3:=U
def Bz:Tryz.prog.cellsOf 187=1:=U
def Ce(os:Os)(args:Array Value):laidMetH Tryz.prog FB ((World.doorLaid Tryz.prog 600 os).forCall (λ_ _=>0) ⟨#[],args,[]⟩).memory:=
 laidMetH_of_parts3 (fuel:=8) (laidMet_of_run' 8 U U) U U
set_option maxRecDepth 100000 in
def Ch{W:World}{L:J4}(N:("ribband/batten.checks",Rows.laid_ribband_batten_checks)∈L)(h:laidMetH Tryz.prog L W):oE (oX W):=by
 obtain⟨g,t,cs,fuel,p,B,Q,R,K⟩:=h.funcs N;obtain rfl:=aT (aAi.symm.trans B);obtain rfl:=aT (aAh.symm.trans Q);obtain⟨xs,n,rfl,S,C,O,A⟩:=DataW.trod_array Tryz.underlying291 K;rw[Bx]at C;have w:=A 0 (by decide);have x:=A 1 (by decide);have z:=A 2 (by decide);rw[Bz]at w x z;obtain⟨G,I,J,rfl⟩:∃a b c,xs=[a,b,c]:=by
  match xs,O with
  | [a,b,c],_=>exact⟨a,b,c,rfl⟩
 obtain⟨c0,c1,c2,k⟩:∃a b c,cs.toList=[a,b,c]:=by
  match h:cs.toList,C with
  | [a,b,c],_=>exact⟨a,b,c,rfl⟩
 rw[k]at w x z;have q:DataW.agg [.held [40,114,105,98,98,97,110,100,47,98,97,116,116,101,110,46,98,111,111,107,41,46,115,116,105,102,102,110,101,115,115],.held [40,114,105,98,98,97,110,100,47,98,97,116,116,101,110,46,98,111,111,107,41,46,109,97,114,107,115],.held [40,114,105,98,98,97,110,100,47,98,97,116,116,101,110,46,98,111,111,107,41,46,114,117,108,101,115]]=DataW.agg [G.1,I.1,J.1]:=(Prod.mk.inj S).1;simp only[DataW.agg.injEq,qBg,qCw]at q;obtain⟨k0,k1,D⟩:=q;obtain⟨T,z0⟩:=G;obtain⟨V,Y⟩:=I;obtain⟨X,Z⟩:=J;dsimp only at k0 k1 D;subst k0 k1 D;obtain rfl:=Go.func_of_trod (f0:=395) Tryz.underlying187 U w;obtain rfl:=Go.func_of_trod (f0:=396) Tryz.underlying187 U x;obtain rfl:=Go.func_of_trod (f0:=397) Tryz.underlying187 U z;have m:cs=#[vf 395,vf 396,vf 397]:=by rw[<-qBT (xs:=cs),k]
 subst m;have s:=World.var?_cell B R;obtain⟨_,o,u,_⟩:=V4 (s 0);refine⟨rfl,o,false,by rw[MD];rw[u];rfl,λj M=>?_⟩;match j,M with
 | 0,_=>obtain⟨_,F,e,f⟩:=V4 (s 0);rw[u]at e;obtain rfl:=aT e;exact f
 | 1,_=>obtain⟨_,F,e,f⟩:=V4 (s 1);rw[u]at e;obtain rfl:=aT e;exact f
 | 2,_=>obtain⟨_,F,e,f⟩:=V4 (s 2);rw[u]at e;obtain rfl:=aT e;exact f
end
variable{i:Nat}{l1 h1 l2 h2 a:Int}{α:Type}{E:TypeId}
theorem zA(b:Sb)(lo hi:Int)(h:i<b.pk.length)(j:Nat):gA (VH b i lo hi) j=if j=i then{ gA b i with lo:=lo,hi:=hi }else gA b j:=by
 show(b.pk.set i _).getD j _=_;rw[qAp,qDR];by_cases e:j=i
 ·subst e;simp[h]
 rw[iF (qAo e),iF e];rfl
def qE(b:Sb)(i:Nat)(e c:Int):(VH b i e c).pk.length=b.pk.length:=qAe
def y9{b:Sb}{g f:Int}(p:b.pk.length<=4)(c:i<b.pk.length)(h1:(gA b i).lo<=g)(h2:f<=(gA b i).hi) :
  Za (VH b i g f)=(Za b).filter λt=>decide (g<=t.get i/\t.get i<=f):=by
 have s:=qE b i g f;refine Kh (CE O) ((CE p).filter _) λx=>?_;rw[jW O,qAu,jW p,Xz,Xz,s];have u:hV (VH b i g f) x=hV b x:=rfl;rw[u,qAN];constructor
 ·rintro⟨⟨h,m⟩,n⟩;have k:=h i c;rw[zA _ _ _ c,qAa rfl]at k;refine⟨⟨⟨λj o=>?_,m⟩,n⟩,k⟩;by_cases e:j=i
  ·subst e;exact⟨qCM h1 k.1,qCM k.2 h2⟩
  have:=h j o;rwa [zA _ _ _ c,iF e]at this
 rintro⟨⟨⟨h,m⟩,n⟩,q⟩;refine⟨⟨λj o=>?_,m⟩,n⟩;rw[zA _ _ _ c];split
 ·rename_i e;rw[e];exact q
 exact h j o
theorem IV{l:List Pk}(lo hi:Int)(h:i<l.length)(j:Nat)(c:j<(l.set i { l[i]with lo:=lo,hi:=hi }).length):(l.set i { l[i]with lo:=lo,hi:=hi })[j].nm=(l[j]'(by simpa using c)).nm:=by
 rw[qDu];split
 ·rename_i e;subst e;rfl
 rfl
def Gw{b:Sb}(ok:gY b){lo hi:Int}(h:i<b.pk.length)(h1:(gA b i).lo<=lo)(h2:lo<=hi)(w:hi<=(gA b i).hi):gY (VH b i lo hi):=by
 have e:gA b i=b.pk[i]:=ZG h _;have A:=ok.pk i h;rw[e]at h1 w;have s:(VH b i lo hi).pk=b.pk.set i { b.pk[i]with lo:=lo,hi:=hi }:=by show b.pk.set i _=_;rw[e]
 have c:(VH b i lo hi).pk.length=b.pk.length:=qE b i lo hi;refine⟨ok.pl,ok.hd,ok.td,by rw[c];exact ok.n,λj m=>?_,λj m=>?_,ok.nn,by rw[c];exact ok.nt⟩
 ·have g:j<b.pk.length:=by rw[<-c];exact m
  have p:=ok.pk j g;simp only[s,qDu];split
  ·rename_i t;subst t;show(1<=lo/\lo<=hi/\hi<=20)/\hi-lo<3/\_;exact⟨⟨O,h2,O⟩,O,A.2.2⟩
  exact p
 have g:j<b.pk.length:=by rw[<-c];exact m
 obtain⟨u,q⟩:=ok.nm j g;simp only[s];rw[IV lo hi h j (by rw[qAe];exact g)];refine⟨u,?_⟩;rw[List.any_eq_false]at q ⊢;intro x B;obtain⟨k,z,rfl⟩:=qAz.1 B;rw[qAs,qAe]at z;rw[qDp,IV lo hi h k (by rw[qAe];omega)];have o:k<(b.pk.take j).length:=by rw[qAs];omega
 have:=q _ (iN o);rw[qDp]at this;exact this
def lH(b:Sb)(i:Nat)(c:Int):Int:=max (gA b i).lo c
def lI(b:Sb)(i:Nat)(c:Int):Int:=min (gA b i).hi c
def uD(b:Sb)(i:Nat)(e c:Int):Int:=if lI b i c<lH b i e then 9 else bS (VH b i (lH b i e) (lI b i c))
def Gx{b:Sb}(ok:gY b)(h:i<b.pk.length){f c:Int}(h1:1<=f/\f<=c/\c<=20):Vy b i f c=uD b i f c:=by
 rw[Vy,O9 ok,iF (by decide),ZhW h,iF (by decide),iF (λe=>e h1),qAL,uD];show(if lI b i c<lH b i f then 9 else Y9 (VH b i (lH b i f) (lI b i c)))=_;by_cases g:lI b i c<lH b i f
 ·rw[qAa g,qAa g]
 have:(gA b i).lo<=lH b i f:=Int.le_max_left _ _;have:lI b i c<=(gA b i).hi:=Int.min_le_left _ _;rw[iF g,iF g];exact pF (Gw ok h O O O)
def JM{b:Sb}{f c:Int}(h:i<b.pk.length)(j:Nat):(gA (VH b i f c) j).jG=(gA b j).jG/\(gA (VH b i f c) j).jN=(gA b j).jN:=by
 rw[zA b f c h];split
 ·rename_i e;subst e;exact⟨rfl,rfl⟩
 exact⟨rfl,rfl⟩
def IR{b:Sb}{e c:Int}(h:i<b.pk.length):Zw (VH b i e c)=Zw b:=
 Ki (qE b i e c) rfl rfl (λj=>(JM h j).1) λj=>(JM h j).2
section
variable{P:fP}[Tz P][Loud P]{H:Hp}{b:Sb}
def Hg(ok:gY b)(t:i<b.pk.length){j c:Int}(h1:1<=j/\j<=c/\c<=20)(hb:Zq H b)(s:Yb H) :
  LL.Zb P 61 #[b.v,vi i,.agg #[vi j,vi c]] H λv m=>fI H m/\((uD b i j c=9/\v=.tuple #[tC.v,vi 9])\/(uD b i j c=0/\lH b i j<=lI b i c/\∃k,iP (VH b i (lH b i j) (lI b i c)) k/\gY k/\Zq m k/\v=.tuple #[k.v,vi 0])):=
 LL.Zb.mono (ZzF hb ok.oI s) λv m h=>by
  rw[Gx ok t h1,qAL]at h;obtain⟨h2,⟨f,rfl⟩ | ⟨f,_,_,u,k,rfl,o,p,n,rfl⟩⟩:=h
  ·have e:uD b i j c=9:=by
    unfold uD bS at f ⊢;split
    ·rfl
    rename_i g;rw[iF g]at f;split
    ·rfl
    rename_i q;rw[iF q]at f;exact absurd rfl f
   rw[e];exact⟨h2,.inl ⟨rfl,rfl⟩⟩
  refine⟨h2,.inr ⟨f,?_,k,p,p.ok o,n,rfl⟩⟩;unfold uD at f;split at f
  ·exact absurd f (by decide)
  omega
end
def Cj{b o p:Sb}(ok:gY b)(c:i<b.pk.length)(j:l1<=l2)(k:h2<=h1)
  (e:iP (VH b i (lH b i l1) (lI b i h1)) o) (f:iP (VH b i (lH b i l2) (lI b i h2)) p):uC o p where
 n:=by rw[f.pk,e.pk,qE,qE]
 res:=(f.res.trans (IR c)).trans (e.res.trans (IR c)).symm
 td:=by rw[f.td,e.td];rfl
 sub:=λt g=>by
  have k1:∀x,(gA b i).lo<=lH b i x:=λx=>Int.le_max_left _ _;have h:∀x,lI b i x<=(gA b i).hi:=λx=>Int.min_le_left _ _;rw[f.boats,y9 ok.n.2 c (k1 _) (h _),qAu,qAN]at g;rw[e.boats,y9 ok.n.2 c (k1 _) (h _),qAu,qAN];have m:lH b i l1<=lH b i l2:=by unfold lH;omega
  have q:lI b i h2<=lI b i h1:=by unfold lI;omega
  exact⟨g.1,O,O⟩
def Gy{b:Sb}(ok:gY b)(c:i<b.pk.length)(j:l1<=l2)(k:h2<=h1)(h:uD b i l2 h2=0):uD b i l1 h1=0:=by
 have m:lH b i l1<=lH b i l2:=by unfold lH;omega
 have o:lI b i h2<=lI b i h1:=by unfold lI;omega
 have k1:∀x,(gA b i).lo<=lH b i x:=λx=>Int.le_max_left _ _;have f:∀x,lI b i x<=(gA b i).hi:=λx=>Int.min_le_left _ _;unfold uD at h;split at h
 ·exact absurd h (by decide)
 rename_i g;rw[EG,y9 ok.n.2 c (k1 _) (f _)]at h;rw[uD,iF O,EG,y9 ok.n.2 c (k1 _) (f _)];obtain⟨t,e⟩:=qBu _ h;rw[qAu,qAN]at e;exact qDi (qAu.2 ⟨e.1,decide_eq_true (show _/\_ from⟨O,O⟩)⟩)
def jL(a:Int):List Int->Int
 | []=>a
 | x :: l=>jL (min a x) l
def jY(a:Int):List Int->Int
 | []=>a
 | x :: l=>jY (max a x) l
def yF{z:Int}:∀(l:List Int) (a:Int),z<=jL a l↔z<=a/\∀x∈l,z<=x
 | [],a=>by simp[jL]
 | x :: l,a=>by rw[jL,yF l];exact aAu
def yE{z:Int}:∀(l:List Int) (a:Int),jY a l<=z↔a<=z/\∀x∈l,x<=z
 | [],a=>by simp[jY]
 | x :: l,a=>by rw[jY,yE l];exact aAu
def Hq:∀(l:List Int) (a:Int),jL a l<=jY a l:=λl a=>by have h1:=(yF (z:=jL a l) l a).1 (qAO _);have h2:=(yE (z:=jY a l) l a).1 (qAO _);omega
def Hr{c:Int}{l m:List Int}(h:∀z∈c :: m,z∈a :: l):jL a l<=jL c m/\jY c m<=jY a l:=by
 have h1:=(yF (z:=jL a l) l a).1 (qAO _);have h2:=(yE (z:=jY a l) l a).1 (qAO _);have k1:∀z∈a :: l,jL a l<=z/\z<=jY a l:=λz e=>by
  rcases qAi.1 e with rfl | e
  ·exact⟨h1.1,h2.1⟩
  exact⟨h1.2 z e,h2.2 z e⟩
 refine⟨(yF _ _).2 ⟨(k1 c (h c (by simp))).1,λz e=>(k1 z (h z (by simp[e]))).1⟩,(yE _ _).2 ⟨(k1 c (h c (by simp))).2,λz e=>(k1 z (h z (by simp[e]))).2⟩⟩
section
variable{P:fP}[Tz P][Loud P]{H:Hp}
def QP(G:P=PP){b:Sb}{q k u p o j:Int}(ok:gY b)(hb:Zq H b)(R:0<=q/\q<256)(X:0<=k/\k<256)(D:u<=o/\o<=j/\j<=p)(K:Yb H)(L:aM H ⟨3,0,none⟩ [vf 407]) :
  LL.Zb P 27 #[b.v,.int .u8 q,.agg #[vi u,vi p],.agg #[vi o,vi j],.int .u8 k] H λv S=>fI H S/\v=vb true:=by
 have hn:=ok.n;refine aU.m (fO Cw) rfl ?_;unfold JR Sb.v;refine Y ?_;refine VC (fU Tryz.underlying5) (fU Tryz.underlying3) rfl ?_;rw[V8 (show rY q from⟨O,O⟩)];refine Y ?_;refine HH rfl rfl O ?_;obtain⟨i,hi,V⟩:=PB (n:=b.pk.length) R.1 O;rw[V];refine Y ?_;refine Zo (vs:=[.agg #[vi u,vi p],.agg #[vi o,vi j]]) (mQ D) ?_;have c1:=jE (lo:=1) (hi:=20) D.1;have c2:=jE (lo:=1) (hi:=20) D.2.1;have c3:=jE (lo:=1) (hi:=20) D.2.2;have c4:=jJ (x:=u) (show(1:Int)<=20 by decide);have c5:=jJ (x:=p) (show(1:Int)<=20 by decide);have c6:=jJ (x:=o) (show(1:Int)<=20 by decide);have c7:=jJ (x:=j) (show(1:Int)<=20 by decide);refine Y ?_;refine Zo (vs:=[.agg #[vi u,vi p],vi 1,vi 20]) m7 ?_;refine Zz OL ?_;generalize OT u 1 20=B at *;generalize OT p 1 20=C at *;refine Y ?_;refine Zg (vs:=[b.v,vi i,.agg #[vi B,vi C]]) (Hg ok hi ⟨O,O,O⟩ hb K) ?_;rintro v T ⟨z,Z⟩;obtain⟨c,s,rfl,w⟩:∃(c:Sb) (s:Int),v=.tuple #[c.v,vi s]/\((s=9/\uD b i B C=9)\/(s=0/\uD b i B C=0/\iP (VH b i (lH b i B) (lI b i C)) c/\gY c/\Zq T c)):=by
  rcases Z with⟨h,rfl⟩ | ⟨h,_,c,Q,e,I,rfl⟩
  ·exact⟨tC,9,rfl,.inl ⟨rfl,h⟩⟩
  exact⟨c,0,rfl,.inr ⟨rfl,h,Q,e,I⟩⟩
 refine Zz OL ?_;unfold Sb.v;refine Y ?_;refine Zo (vs:=[.agg #[vi o,vi j],vi 1,vi 20]) m7 ?_;refine Zz OL ?_;generalize OT o 1 20=a3 at *;generalize OT j 1 20=a4 at *;refine Y ?_;refine Zg (vs:=[b.v,vi i,.agg #[vi a3,vi a4]]) (Hg ok hi ⟨O,O,O⟩ (hb.inc z) (aM.inc K z)) ?_;rintro v U ⟨F,hw⟩;obtain⟨d,t,rfl,N⟩:∃(d:Sb) (t:Int),v=.tuple #[d.v,vi t]/\((t=9/\uD b i a3 a4=9)\/(t=0/\uD b i a3 a4=0/\iP (VH b i (lH b i a3) (lI b i a4)) d/\gY d/\Zq U d)):=by
  rcases hw with⟨h,rfl⟩ | ⟨h,_,d,Q,f,J,rfl⟩
  ·exact⟨tC,9,rfl,.inl ⟨rfl,h⟩⟩
  exact⟨d,0,rfl,.inr ⟨rfl,h,Q,f,J⟩⟩
 refine Zz OL ?_;unfold Sb.v;refine Y ?_;refine Zg (vs:=[b.v,c.v,d.v,vi s,vi t,.int .u8 k,.int .u8 q]) (qI G ?_ X R (aM.inc K (z.trans F)) (aM.inc L (z.trans F))) ?_
 ·rcases N with⟨rfl,h2⟩ | ⟨rfl,h2,g,f,J⟩
  ·rcases w with⟨rfl,_⟩ | ⟨rfl,_⟩
   ·exact .inl ⟨rfl,.inl rfl⟩
   exact .inl ⟨rfl,.inr rfl⟩
  rcases w with⟨rfl,h1⟩ | ⟨rfl,h1,A,e,I⟩
  ·exact absurd (Gy ok hi c1 c3 h2) (by rw[h1];decide)
  have M:Za d≠[]:=by
   rw[g.boats];unfold uD at h2;split at h2
   ·exact absurd h2 (by decide)
   exact EG.1 h2
  exact .inr ⟨rfl,rfl,e,f,by rw[A.pk];exact qE b i _ _,by rw[g.pk];exact qE b i _ _,Cj ok hi c1 c3 A g,M,I.inc F,J⟩
 rintro v H3 ⟨i3,rfl⟩;refine Y ?_;exact⟨(z.trans F).trans i3,rfl⟩
end
theorem EQ{x:Int}:∀(l:List Int) (a:Int),jL a (l++[x])=min (jL a l) x
 | [],_=>rfl
 | y :: l,a=>by rw[qBa,jL,EQ l];rfl
theorem EP{x:Int}:∀(l:List Int) (a:Int),jY a (l++[x])=max (jY a l) x
 | [],_=>rfl
 | y :: l,a=>by rw[qBa,jY,EP l];rfl
section
variable{P:fP}[Tz P][Loud P]{H:Hp}
def EO{v:Value}{r:List Int}(g:dF H v (a :: r))(x:(a :: r).length<=1000000) :
  LL.Zb P 16 #[v] H λw h=>H=h/\w=.tuple #[.agg #[vi (jL a r),vi (jY a r)],vb true]:=by
 have p:(a :: r).length=r.length+1:=rfl;refine aU.m (fO Cn) rfl ?_;unfold IE;refine Y ?_;refine YH g rfl (Y ?_);refine ZB 0 g O λq o=>Y ?_;refine Z8 o (Y ?_);refine Zg (vs:=[vi a]) (P1 _) ?_;rintro w _ ⟨rfl,rfl⟩;refine Y ?_;refine ZC r.length (λj h=>H=h) (λj=>[(0,v),(2,vi 0),(3,vb false),(4,vi 0),(5,vi ((1+j:Nat):Int))]) (λj=>[(2,[vi 0,vi 0]),(4,[vi (jL a (r.take j)),vi (jY a (r.take j))])]) rfl V V ?_;rintro j _ u rfl;refine Y ?_;refine YH g rfl ?_;refine OJ (λh2=>?_) (λh2=>?_)
 ·have f:1+j<(a :: r).length:=O;have k:j<r.length:=O;have n:(a :: r)[1+j]=r[j]:=by simp[qDU 1 j]
  refine Y ?_;refine ZB (1+j) g f λs c=>?_;rw[n]at c;refine Y ?_;refine Z8 c (Y ?_);refine EH rfl rfl (Y ?_);refine ZB (1+j) g f λt e=>?_;rw[n]at e;refine Y ?_;refine Z8 e (Y ?_);refine yG rfl rfl (Y ?_);refine Zg (vs:=[vi (min (jL a (r.take j)) r[j]),vi (max (jY a (r.take j)) r[j])]) (MW _ _) ?_;rintro w _ ⟨rfl,rfl⟩;refine Y ?_;refine⟨⟨j+1,O⟩,gI O,rfl,⟨rfl,rfl,rfl,rfl,?_,trivial⟩,⟨rfl,?_,trivial⟩,rfl⟩
  ·show some (vi (((1+j:Nat):Int)+1))=some (vi ((1+(j+1):Nat):Int));congr 2
  rw[BY k,EQ,EP];rfl
 have:j=r.length:=O;subst this;rw[qAh];refine Y ?_;exact⟨rfl,rfl⟩
end
def yD{α:Type}{f:Int->List α}{g:Int}{z:α}:∀{c:Nat},z∈oJ f g c↔∃v,g-c<v/\v<=g/\z∈f v
 | 0=>⟨λh=>by simp[oJ]at h,λ⟨v,h1,h2,_⟩=>O⟩
 | c+1=>by
  rw[oJ,qAj,yD (c:=c)];constructor
  ·rintro(h | ⟨v,h1,h2,j⟩)
   ·exact⟨g-c,O,O,h⟩
   exact⟨v,O,h2,j⟩
  rintro⟨v,h1,h2,j⟩;by_cases e:v=g-c
  ·subst e;exact .inl j
  exact .inr ⟨v,O,h2,j⟩
def jB(c:List Int->Int->Bool)(ok:List Int->Bool):List (Int×Int)->List Int->List (List Int)
 | [],p=>if ok p then[p]else[]
 | m :: e,p=>oJ (λv=>if c p v then[]else jB c ok e (p++[v])) m.2 (m.2-m.1+1).toNat
def IU{vX:List Int->Int->Bool}{ok Qu:List Int->Bool}(o:∀p,Qu p=true->ok p=true):∀(e f:List (Int×Int)) (p:List Int),f.length=e.length->(∀i (h:i<e.length) (s:i<f.length),e[i].1<=f[i].1/\f[i].2<=e[i].2)->∀z∈jB vX Qu f p,z∈jB vX ok e p
 | [],[],p,_,_,z,c=>by
  simp only[jB]at c ⊢;split at c
  ·rename_i h;rw[qAa (o _ h)];exact c
  simp at c
 | m :: e,n :: f,p,j,h,z,c=>by
  rw[jB,yD]at c ⊢;obtain⟨v,h1,h2,k⟩:=c;have q:=h 0 (by simp) (by simp);simp only[List.getElem_cons_zero]at q;refine⟨v,O,O,?_⟩;split at k
  ·simp at k
  rename_i g;rw[iF g];exact IU o e f _ (by simpa using j) (λi h1 h2=>by have:=h (i+1) (by simp;omega) (by simp;omega);simpa using this) z k
 | [],n :: f,p,j,_,z,c=>by simp at j
 | m :: e,[],p,j,_,z,c=>by simp at j
def EM{f:List Int->Int->Bool}{ok:List Int->Bool}:∀(e:List (Int×Int)) (p:List Int),∀z∈jB f ok e p,z.length=p.length+e.length
 | [],p,z,c=>by
  simp only[jB]at c;split at c
  ·rw[iO.1 c];simp
  simp at c
 | m :: e,p,z,c=>by
  rw[jB,yD]at c;obtain⟨v,_,_,g⟩:=c;split at g
  ·simp at g
  have:=EM e _ z g;simp at this ⊢;omega
def IS{j:List Int->Int->Bool}{ok:List Int->Bool}{a c:Int}:∀(g:List (Int×Int)) (p:List Int),(∀m∈g,a<=m.1/\m.2<=c)->(∀x∈p,a<=x/\x<=c)->∀z∈jB j ok g p,∀x∈z,a<=x/\x<=c
 | [],p,_,n,z,e=>by
  simp only[jB]at e;split at e
  ·rw[iO.1 e];exact n
  simp at e
 | m :: g,p,o,n,z,e=>by
  rw[jB,yD]at e;obtain⟨v,h1,h2,k⟩:=e;have q:=o m (by simp);split at k
  ·simp at k
  exact IS g _ (λm h=>o m (by simp[h])) (λx f=>by
   rcases qAj.1 f with f | f
   ·exact n x f
   rw[iO.1 f];omega) z k
def EN{α:Type}{f:Int->List α}{hi:Int}{k:Nat}(h:∀v,(f v).length<=k):∀c,(oJ f hi c).length<=c * k
 | 0=>by simp[oJ]
 | c+1=>by have:=EN h (hi:=hi) c;have:=h (hi-c);rw[oJ,IN,qBx];omega
def IT{vX:List Int->Int->Bool}{ok:List Int->Bool}:∀(c:List (Int×Int)) (p:List Int),(∀m∈c,m.2-m.1<3)->(jB vX ok c p).length<=3 ^ c.length
 | [],p,_=>by rw[jB];split<;>simp
 | m :: c,p,h=>by
  have g:=h m (by simp);have h1:∀v,(if vX p v then[]else jB vX ok c (p++[v])).length<=3 ^ c.length:=λv=>by
   split
   ·simp
   exact IT c _ λm f=>h m (by simp[f])
  have h2:=EN h1 (hi:=m.2) (m.2-m.1+1).toNat;have e:(m.2-m.1+1).toNat<=3:=O;have j:=qAV (3 ^ c.length) e;rw[jB,qAF,qCC];omega
def nD(l:List Int):List Value:=l.map λz=>vi z
abbrev x7(l:List Int):Value:=.agg (nD l).toArray
theorem EX{l:List Int}(h:i<l.length):(nD l)[i]? = some (vi (l.getD i 0)):=by rw[nD,qCe,qAp,qAZ h];rfl
theorem WfF(l:List Int):((nD l).all Value.gM)=true:=by rw[nD,List.all_map,qAf];exact λ_ _=>rfl
def Hj{z:Int}:∀(l:List Int) (i:Nat),i<l.length->ZR (nD l) i [vi z]=nD (l.set i z)
 | [],i,h=>by simp at h
 | x :: l,0,_=>by simp[nD,ZR]
 | x :: l,i+1,h=>by have ih:=Hj (z:=z) l i (by simpa using h);simp only[ZR,nD,qBm,List.set_cons_succ,List.take_succ_cons,qAW,qBa]at ih ⊢;rw[<-ih];congr 1
structure Ar(n:Nat) where
 l:List Int
 h:l.length=n
instance (n:Nat):Enc (Ar n):=⟨n,λx=>nD x.l,λx=>by rw[nD,qAd];exact x.h⟩
def Ck(n:Nat)(x:Ar n):((Zd [x]).all Value.gM)=true:=by show((nD x.l++[]).all Value.gM)=true;rw[qAl];exact WfF _
def ES:Yw Tryz.prog 157=some (1,some .nilFunc,8):=U
def pH:Tryz.prog.underlying 52=some (.slice 31):=U
section
variable{P:fP}[Tz P][Loud P]{H:Hp}
def He{v:Value}{l:List NK}(z:dF H v l)(h:l.length<=1000000):LL.Zb P 92 #[v] H λp j=>H.Sub j/\∃b,gL H j 31 p l b:=by
 have f:P.still H.gh=false:=Loud.fD _;obtain⟨A,c,rfl,o⟩:=z;refine aU.m (fO Db) rfl ?_;unfold JW;refine Y ?_;refine yV (fU pH) rfl ?_;refine OJ (λh1=>?_) (λh1=>?_)
 ·refine Y ?_;have:l=[]:=qAb λh=>by obtain⟨a,rfl,_⟩:=o h;simp at h1
  subst this;exact⟨.refl H,none,.nil H _ 31⟩
 refine Y ?_;refine rT (fU pH) (fT Po) f λr k=>Y ?_;have g:P.still (H.ins r (.cells #[] 31)).gh=false:=f;refine uG (l:=([]:List NK)) (l':=l) (fU pH) (fU pH) (fT Po) rfl (by decide) (YB k) (H0:=H) (b:=some r) ⟨wA,λq e=>by obtain rfl:=aT e;exact k⟩ ⟨A,c,rfl,λh=>by obtain⟨a,t,u⟩:=o h;exact⟨a,t,u.sub (YB k)⟩⟩ (sU (λ_=>rfl) l) (by simp;omega) O rfl rfl g λp j s w n C=>Y ?_;exact⟨w,s,by rw[qAt]at n;exact n⟩
end
def nA(H:Hp)(b:Option Nat):Hp:=⟨λa=>if some a=b then none else H a,H.gh⟩
def gL.er[Enc α]{f H:Hp}{v:Value}{l:List α}{b c:Option Nat}(h:gL f H E v l b)(j:∀r,c=some r->f r≠none):gL f (nA H c) E v l b:=
 ⟨h.own.sub λq y e k=>by simp only[nA];rw[iF (λg=>j q g.symm (h.fresh q e)),k],h.fresh⟩
def gL.base[Enc α]{c f H:Hp}{v:Value}{l:List α}{b:Option Nat}(h:gL f H E v l b)(i:fI c f):gL c H E v l b:=
 ⟨h.own,λr e=>by
  cases g:c r with
  | none=>rfl
  | some x=>have:=i r x g;rw[h.fresh r e]at this;exact absurd this (by simp)⟩
def gL.ne[Enc α]{e H:Hp}{v:Value}{l:List α}{b:Option Nat}(h:gL e H E v l b)(c:l≠[]):∃r cap rest,b=some r/\v=.slice (some ⟨r,0,none⟩) l.length cap/\H r=some (.cells (Zd l++rest).toArray E (0,0),true)/\(Zd l++rest).length=cap * Enc.sz α/\l.length<=cap/\e r=none:=by
 obtain⟨k,⟨_,h2,_⟩ | ⟨r,cap,rest,h1,h2,f,g,j⟩⟩:=h.own
 ·exact absurd (qBj.1 h2) c
 exact⟨r,cap,rest,h1,h2,f,g,j,h.fresh r h1⟩
def gL.cap[Enc α]{e H:Hp}{l:List α}{b:Option Nat}{A:Option Addr}{n c:Nat}(h:gL e H E (.slice A n c) l b):l.length<=c:=by
 obtain⟨g,⟨h1,h2,_⟩ | ⟨r,cap,rest,h1,h2,j,k,f⟩⟩:=h.own
 ·rw[h2];exact qBf _
 obtain⟨_,_,rfl⟩:=Value.slice.inj h2;exact f
structure BRl where
 (a b lo hi:Int)
instance:Enc BRl:=⟨4,λp=>[vi p.a,vi p.b,vi p.lo,vi p.hi],λ_=>rfl⟩
structure BBk where
 (bd tw tn:Int) (ms:List NK) (rl:List BRl) (A1:Option Addr) (c1:Nat) (A2:Option Addr) (c2:Nat)
def BBk.cs(b:BBk):List Value:=[vi b.bd,vi b.tw,vi b.tn,.slice b.A1 b.ms.length b.c1,.slice b.A2 b.rl.length b.c2]
def BBk.v(b:BBk):Value:=.agg #[vi b.bd,vi b.tw,vi b.tn,.slice b.A1 b.ms.length b.c1,.slice b.A2 b.rl.length b.c2]
structure gT(H:Hp)(b:BBk):Prop where
 ms:dF H (.slice b.A1 b.ms.length b.c1) b.ms
 rl:dF H (.slice b.A2 b.rl.length b.c2) b.rl
 q1:b.ms.length<=b.c1
 q2:b.rl.length<=b.c2
def gT.inc{H H':Hp}{b:BBk}(h:gT H b)(i:fI H H'):gT H' b:=⟨h.ms.inc i,h.rl.inc i,h.q1,h.q2⟩
def uJ(x:NK):Prop:=(0<=x.lo/\x.lo<=x.hi/\x.hi<=959)/\x.hi-x.lo<3
def uL(n:Nat)(r:BRl):Prop:=((0<=r.a/\r.a<=(n:Int)-1)/\0<=r.b/\r.b<=(n:Int)-1)/\r.a<r.b/\-959<=r.lo/\r.lo<=r.hi/\r.hi<=959
def qW(b:BBk):Prop:=(0<=b.bd/\b.bd<=99)/\(0<=b.tw/\b.tw<=99)/\0<=b.tn/\b.tn<=5
def uK(l:List NK):Prop:=(3<=l.length/\l.length<=7)/\∀i (c:i<l.length),uJ l[i]
def rU(n:Nat)(l:List BRl):Prop:=l.length<=4/\∀i (c:i<l.length),uL n l[i]
structure BOk(b:BBk):Prop where
 st:qW b
 ms:uK b.ms
 rl:rU b.ms.length b.rl
section
variable{P:fP}[Tz P][Loud P]{H:Hp}
def Et{v:Value}{l:List NK}(k:dF H v l)(C:l.length<=1000000):LL.Zb P 94 #[v] H λw t=>H=t/\∃s,w=vi s/\(s=0↔uK l):=by
 refine aU.m (fO Dd) rfl ?_;unfold IY;refine Y ?_;refine YH k rfl (Y ?_);refine Zg (vs:=[vi l.length,vi 3,vi 7]) (O2 _ _ _) ?_;rintro w _ ⟨rfl,rfl⟩;by_cases h1:(3:Int)<=l.length/\(l.length:Int)<=7;rotate_left
 ·rw[qAU h1];refine Y ?_;exact⟨rfl,2,rfl,⟨λe=>O,λh=>absurd h.1 O⟩⟩
 rw[decide_eq_true h1];refine Y ?_;refine ZC l.length (λj t=>H=t/\∀i (hi:i<l.length),i<j->uJ l[i]) (λj=>[(0,v),(3,vi j)]) (λ_=>[]) ⟨rfl,O⟩ V trivial ?_;rintro j _ B ⟨rfl,lZ⟩;refine Y ?_;refine YH k rfl ?_;refine OJ (λh2=>?_) (λh2=>?_)
 ·have f:j<l.length:=O;have u:¬ uJ l[j]->∃s,vi 1=vi s/\(s=0↔uK l):=λh=>⟨1,rfl,λe=>O,λg=>absurd (g.2 j f) h⟩;have row:∀{a},aM H a (Enc.enc l[j])->aM H a [vi l[j].lo,vi l[j].hi]:=λh=>h;generalize q:l[j]=x at *;refine Y ?_;refine ZB j k f λa c=>?_;rw[q]at c;have c:=row c;refine Y ?_;refine YL c (Y ?_);refine Zg (vs:=[.agg #[vi x.lo,vi x.hi],vi 0,vi 959]) (CA _ _ _ _) ?_;rintro w _ ⟨rfl,rfl⟩;by_cases p:0<=x.lo/\x.lo<=x.hi/\x.hi<=959;rotate_left
  ·rw[qAU p];refine Y ?_;exact⟨rfl,u λg=>p g.1⟩
  rw[decide_eq_true p];refine Y ?_;refine ZB j k f λa c=>?_;rw[q]at c;have c:=row c;refine Y ?_;refine Zh (v:=vi x.hi) (OL _) rfl (mG c (n:=1) rfl) (Y ?_);refine ZB j k f λa c=>?_;rw[q]at c;have c:=row c;refine Y ?_;refine Zh (v:=vi x.lo) (OL _) rfl (by rw[add_zero];exact YN (cs:=[vi x.lo]) (ds:=[vi x.hi]) c) ?_;refine OJ (λA=>?_) (λA=>?_)
  ·refine Y ?_;exact⟨rfl,u λg=>by have:=g.2;omega⟩
  refine Y ?_;exact⟨⟨j+1,O⟩,gI O,⟨rfl,λi hi h=>by
   rcases qAv.1 h with z | rfl
   ·exact lZ i hi z
   rw[q];exact⟨p,O⟩⟩,V,trivial,rfl⟩
 exact aAl
def IL{b:BBk}(n:Int)(e:b.ms.length<=1000000):LL.Zb P 168 #[b.v,vi n] H λv c=>H=c/\v=vb (decide (0<=n/\n<=(b.ms.length:Int)-1)):=by refine aU.m (fO Dk) rfl ?_;unfold I5 BBk.v;refine Y ?_;refine Zg (vs:=[vi n,vi 0,vi ((b.ms.length:Int)-1)]) (O2 _ _ _) ?_;rintro w _ ⟨rfl,rfl⟩;refine Y ?_;exact⟨rfl,rfl⟩
def Eu{b:BBk}(hb:gT H b)(B:b.ms.length<=1000000)(C:b.rl.length<=1000000):LL.Zb P 95 #[b.v] H λw z=>H=z/\∃s,w=vi s/\(s=0↔rU b.ms.length b.rl):=by
 refine aU.m (fO De) rfl ?_;unfold IZ BBk.v;refine OJ (λh1=>?_) (λh1=>?_)
 ·exact aAk
 refine Y ?_;refine ZC b.rl.length (λj z=>H=z/\∀i (hi:i<b.rl.length),i<j->uL b.ms.length b.rl[i]) (λj=>[(1,vi 0),(3,vi j)]) (λ_=>[(1,b.cs)]) ⟨rfl,O⟩ V V ?_;rintro j _ I ⟨rfl,lZ⟩;unfold BBk.cs;refine OJ (λh2=>?_) (λh2=>?_)
 ·have k:j<b.rl.length:=O;have u:∀n:Int,n≠0->¬ uL b.ms.length b.rl[j]->∃s,vi n=vi s/\(s=0↔rU b.ms.length b.rl):=λn C h=>⟨n,rfl,λe=>absurd e C,λg=>absurd (g.2 j k) h⟩;have row:∀{a},aM H a (Enc.enc b.rl[j])->aM H a [vi b.rl[j].a,vi b.rl[j].b,vi b.rl[j].lo,vi b.rl[j].hi]:=λh=>h;generalize D:b.rl[j]=x at *;refine Y ?_;refine ZB j hb.rl k λa t=>?_;rw[D]at t;have t:=row t;refine Y ?_;refine YL t (Y ?_);refine Zg (vs:=[b.v,vi x.a]) (IL _ B) ?_;rintro w _ ⟨rfl,rfl⟩;by_cases o:0<=x.a/\x.a<=(b.ms.length:Int)-1;rotate_left
  ·rw[qAU o];refine Y ?_;exact⟨rfl,u 6 (by decide) λg=>o g.1.1⟩
  rw[decide_eq_true o];refine Y ?_;refine Zg (vs:=[b.v,vi x.b]) (IL _ B) ?_;rintro w _ ⟨rfl,rfl⟩;by_cases p:0<=x.b/\x.b<=(b.ms.length:Int)-1;rotate_left
  ·rw[qAU p];refine Y ?_;exact⟨rfl,u 6 (by decide) λg=>p g.1.2⟩
  rw[decide_eq_true p];refine OJ (λG=>?_) (λG=>?_)
  ·refine Y ?_;exact⟨rfl,u 7 (by decide) λg=>by have:=g.2.1;omega⟩
  refine Y ?_;refine Zg (vs:=[.agg #[vi x.lo,vi x.hi],vi (-959),vi 959]) (CA _ _ _ _) ?_;rintro w _ ⟨rfl,rfl⟩;by_cases q:-959<=x.lo/\x.lo<=x.hi/\x.hi<=959;rotate_left
  ·rw[qAU q];refine Y ?_;exact⟨rfl,u 1 (by decide) λg=>q g.2.2⟩
  rw[decide_eq_true q];refine Y ?_;exact⟨⟨j+1,O⟩,gI O,⟨rfl,λi hi h=>by
   rcases qAv.1 h with F | rfl
   ·exact lZ i hi F
   rw[D];exact⟨⟨o,p⟩,O,q⟩⟩,V,V,rfl⟩
 exact aAl
def IP{b:BBk}(hb:gT H b)(t:b.ms.length<=1000000)(k:b.rl.length<=1000000):LL.Zb P 25 #[b.v] H λw z=>H=z/\∃s,w=vi s/\(s=0↔BOk b):=by
 have f:∀n:Int,n≠0->¬ BOk b->∃s,vi n=vi s/\(s=0↔BOk b):=λn k h=>⟨n,rfl,λe=>absurd e k,λg=>absurd g h⟩;refine aU.m (fO Cu) rfl ?_;unfold JP;show Zc.m _ _ _ _ _;unfold BBk.v;refine Y ?_;refine Zg (vs:=[vi b.bd,vi 0,vi 99]) (O2 _ _ _) ?_;rintro w _ ⟨rfl,rfl⟩;by_cases h1:0<=b.bd/\b.bd<=99;rotate_left
 ·rw[qAU h1];refine Y ?_;exact⟨rfl,f 1 (by decide) λg=>h1 g.st.1⟩
 rw[decide_eq_true h1];refine Y ?_;refine Zg (vs:=[vi b.tw,vi 0,vi 99]) (O2 _ _ _) ?_;rintro w _ ⟨rfl,rfl⟩;by_cases h2:0<=b.tw/\b.tw<=99;rotate_left
 ·rw[qAU h2];refine Y ?_;exact⟨rfl,f 1 (by decide) λg=>h2 g.st.2.1⟩
 rw[decide_eq_true h2];refine Y ?_;refine Zg (vs:=[vi b.tn,vi 0,vi 5]) (O2 _ _ _) ?_;rintro w _ ⟨rfl,rfl⟩;by_cases c:0<=b.tn/\b.tn<=5;rotate_left
 ·rw[qAU c];refine Y ?_;exact⟨rfl,f 1 (by decide) λg=>c g.st.2.2⟩
 rw[decide_eq_true c];refine Y ?_;refine Zg (vs:=[.slice b.A1 b.ms.length b.c1]) (Et hb.ms t) ?_;rintro w _ ⟨rfl,s,rfl,p⟩;refine OJ (λj=>?_) (λj=>?_)
 ·refine Y ?_;exact⟨rfl,f s j λg=>j (p.2 g.ms)⟩
 have m:=p.1 O;refine Y ?_;refine Zg (vs:=[b.v]) (Eu hb t k) ?_;rintro w _ ⟨rfl,A,rfl,q⟩;refine Y ?_;exact⟨rfl,A,rfl,λe=>⟨⟨h1,h2,c⟩,m,q.1 e⟩,λg=>q.2 g.rl⟩
def Wfy{b:BBk}:LL.Zb P 86 #[b.v] H λv c=>H=c/\v=vb (decide (20<b.ms.length\/20<b.rl.length)):=by
 refine aU.m (fO Cy) rfl ?_;unfold JS BBk.v;refine OJ (λh1=>?_) (λh1=>?_)
 ·refine Y ?_;exact⟨rfl,by rw[decide_eq_true (show 20<b.ms.length\/20<b.rl.length from .inl O)];rfl⟩
 refine Y ?_;exact⟨rfl,by show vb _=vb _;congr 1;rw[qCO];omega⟩
def WfB{b:BBk}(hb:gT H b):LL.Zb P 19 #[b.v] H λv c=>H=c/\∃t,v=vb t/\(t=true->BOk b):=by
 refine aU.m (fO Co) rfl ?_;unfold IG BBk.v;refine Y ?_;refine Zg (vs:=[b.v]) Wfy ?_;rintro w _ ⟨rfl,rfl⟩;by_cases h:20<b.ms.length\/20<b.rl.length
 ·rw[decide_eq_true h];refine Y ?_;exact⟨rfl,false,rfl,λe=>by simp at e⟩
 rw[qAU h];refine Y ?_;refine Zg (vs:=[b.v]) (IP hb O O) ?_;rintro w _ ⟨rfl,s,rfl,e⟩;refine Y ?_;exact⟨rfl,_,rfl,λh=>e.1 (by simpa using h)⟩
end
