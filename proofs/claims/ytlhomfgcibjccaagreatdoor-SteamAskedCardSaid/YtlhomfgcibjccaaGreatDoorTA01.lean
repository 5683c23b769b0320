import Derived.Test.YtlhomfgcibjccaaGreatDoorTA00
set_option linter.all false
set_option maxHeartbeats 8000000
set_option maxRecDepth 20000
section
open Go Go.LL Go.Conc Go.ConcM
namespace Go.Proofs.YtlhomfgcibjccaaGreatDoor
theorem WaS:Tryz.pinned.checked.prog.funcNamed Rows.steamAskedRow.func=some 12:=U
theorem WaQ:(Rows.steamAskedRow.inPlace == Tryz.pinned.checked.prog.inPlace 12)=true:=U
theorem WaP:(Rows.steamAskedRow.unfollowed == Tryz.pinned.checked.prog.unfollowed 12)=true:=U
theorem WaO:(Rows.steamAskedRow.recurses == Tryz.pinned.checked.prog.recurses 12)=true:=U
theorem WaN:(Rows.steamAskedRow.named == Tryz.pinned.checked.prog.varsNamed 12)=true:=U
theorem WaR:joinedFacts Tryz.pinned.checked.prog 12 Tryz.f12 Rows.steamAskedSpec Rows.steamAskedRow=true:=by unfold joinedFacts;exact bN (bN (bN (bN (bN (bN (bN (bN (bN (bN (bN (bN (bN (bN (bN (bN (bN (bN (bN (bN (bN (bN (bN (bN (bN (bN (bN (bN (bN (bN (bN U Kl) AJ) U) U) U) U) U) U) WaQ) WaP) WaO) WaN) U) U) U) U) U) U) U) U) U) U) U) vK) vL) U) U) U) U) U) U
theorem WaM:Tryz.f12.isInstance Tryz.pinned.checked.prog Rows.steamAskedRow.origin Rows.steamAskedRow.targs:=of_decide_eq_true U
theorem WaL:Tryz.f12.isWrapper Tryz.pinned.checked.prog Rows.steamAskedRow.wrapper Rows.steamAskedRow.mainSum:=by unfold Func.isWrapper;first | (rw[iO (by decide +kernel)];kernel_rfl) | (rw[bY (by decide +kernel)];exact⟨rfl,rfl⟩)
end Go.Proofs.YtlhomfgcibjccaaGreatDoor
end
section
open Go Go.LL
namespace Go.LL
section
variable{sT E:TypeId}{eH gR m:Nat}{zv w:Value}{xs:List Value}{a:Addr}
section
variable{P:bF}{H:Hp}{d:Option Nat}{next:aN->Hp->Prop}{σ:aN}{x y:Operand}
theorem Wbe{T:TypeId}(hu:P.toProgram.underlying sT=some (.slice E))(ti:TI P.toProgram E eH zv gR)(hz:zv.cells.size=eH)(he:0<eH)
  (hw:(m=0/\∃A c,w=.slice A 0 c)\/∃a c,w=.slice (some a) m c/\aD H a xs) (hl:xs.length=m * eH) (h1:(xs.all Value.dZ)=true) (gI:m<=1000000000) (kS:gR<=1000) (bB:P.still H.gh=false)
  {K:Value->Hp->Prop} (k0:m=0->K (.slice (some a) 0 0) H) (k1:∀r nc rest,H r=none->m<=nc->(xs++rest).length=nc * eH->K (.slice (some ⟨r,0,none⟩) m nc) (H.ins r (.cells (xs++rest).toArray E))):cD P.toPQ (Builtin.append_ #[sT,sT] T #[.slice (some a) 0 0,w]) (λv _ H'=>K v H') false H:=by
 obtain⟨p9,i1,i2,i3,i4⟩:=ti.ex;have dJ:∀Q g,Q m g H->cD P.toPQ (Builtin.lenOf w) Q g H:=by intro Q g hq;rcases hw with⟨rfl,A,c,rfl⟩ | ⟨a,c,rfl,_⟩<;>simpa[Builtin.lenOf,Zj]using hq
 have kC:∀(Q:Array Value->Bool->Hp->Prop) g,Q xs.toArray g H->cD P.toPQ (Builtin.firstCells eH m w) Q g H:=by
  intro Q g hq;rcases hw with⟨rfl,A,c,rfl⟩ | ⟨a,c,rfl,hc⟩
  ·have:xs=[]:=qAf (by simpa using hl);subst this;cases A<;>simpa[Builtin.firstCells,Zj,loadCells,loadCellsFrom]using hq
  simp only[Builtin.firstCells];exact WR bB hc hq hl
 have sS:∀(Q:Array Value->Bool->Hp->Prop) g,Q #[] g H->cD P.toPQ (Builtin.firstCells eH 0 (.slice (some a) 0 0)) Q g H:=by intro Q g hq;simpa[Builtin.firstCells,Zj,loadCells,loadCellsFrom]using hq
 simp only[Builtin.append_,qAD,qBc,qAU,Zh,Zy hu,Z6 i1,i2,Zj,iN,qAk];refine dJ _ _ ?_;simp only[qCu,qAM];by_cases kK:0+m<=0
 ·rw[iO kK];have hm:m=0:=O;subst hm;have FW:xs=[]:=qAf (by simpa using hl);subst FW;simp only[Zh,Zj];refine kC _ _ ?_;simpa[storeCells,Zj]using k0 rfl
 rw[bY kK];simp only[Zh,O2 i1,i4];rw[bY (by rintro⟨h,_⟩;simp[IntKind.max,IntKind.bits,IntKind.signed]at h;omega)];simp only[Zh,Zj,O2 i1,i4];have BR:¬ Builtin.nextslicecap (0+m) 0 * gR > 2 ^ 48:=by have h1:=Xt (need:=0+m) (old:=0) O;have h2:Builtin.nextslicecap (0+m) 0 * gR<=(2 * (0+m)+200) * 1000:=qCL h1 kS;omega
 rw[bY BR];simp only[Zh,Zj,choose];rw[cD];simp only[Question.forced,iN,qAk];refine⟨bB,λt=>?_⟩;have yC:0+m<=(Question.appendCap (0+m) 0 E).cut t:=by simp only[Question.cut];omega
 generalize(Question.appendCap (0+m) 0 E).cut t=nc at yC;rw[cD];have BS:∀(Q:Unit->Bool->Hp->Prop),Q () false H->cD P.toPQ (askRoom (nc * gR)) Q false H:=by
  intro Q hq;unfold askRoom;split
  ·exact⟨.inr ⟨rfl,bB⟩,hq⟩
  exact hq
 rw[O2 i1,i4];refine BS _ ?_;refine sS _ _ ?_;refine kC _ _ ?_;simp only[UC i1 i3,newRow,Zh,newObj,Zj];refine⟨bB,λr hr=>?_⟩;have hk:=k1 r nc (Builtin.zeroCells zv.cells (nc-(0+m))).toList hr O (by simp only[qAc,hl,qBN,ZnN,hz];rw[<-qCz];congr 1;omega);have e:(#[]++xs.toArray++Builtin.zeroCells zv.cells (nc-(0+m)))=(xs++(Builtin.zeroCells zv.cells (nc-(0+m))).toList).toArray:=by simp
 rw[qAu]at e hk;rw[qAu,e];exact hk
theorem Waz{T:TypeId}(hu:P.toProgram.underlying sT=some (.slice E))(ti:TI P.toProgram E eH zv gR)(hz:zv.cells.size=eH)(he:0<eH)(e1:σ.get x=some (.slice (some a) 0 0))(e2:σ.get y=some w)
  (hw:(m=0/\∃A c,w=.slice A 0 c)\/∃a c,w=.slice (some a) m c/\aD H a xs) (hl:xs.length=m * eH) (h1:(xs.all Value.dZ)=true) (gI:m<=1000000000) (kS:gR<=1000) (bB:P.still H.gh=false)
  (k0:m=0->next (σ.set d (.slice (some a) 0 0)) H) (k1:∀r nc rest,H r=none->m<=nc->(xs++rest).length=nc * eH->next (σ.set d (.slice (some ⟨r,0,none⟩) m nc)) (H.ins r (.cells (xs++rest).toArray E))):(bC.raw (.call { callee:=.builtin .append,args:=#[x,y],argTypes:=#[sT,sT] }) T).m P d next σ H:=by
 refine YS (s:=Builtin.append_ #[sT,sT] T #[.slice (some a) 0 0,w]) (by simp[Op.operands,Call.operands,e1,e2]) (by simp[execOp,aP,resolve,invoke,builtin,e1,e2]) ?_;exact Wbe (T:=T) hu ti hz he hw hl h1 gI kS bB k0 k1
end
end
end Go.LL
end
open Go Go.LL
namespace Go.Proofs
section
variable{α:Type}{H0:Hp}{r:Nat}{E:TypeId}
theorem Cs[Enc α]{H:Hp}{nc:Nat}{l:List α}{rest:List Value}(hi:bO H0 H)(hr:H r=none)(h2:l.length<=nc)(h3:(Zb l++rest).length=nc * Enc.sz α):fZ H0 (H.ins r (.cells (Zb l++rest).toArray E)) E (.slice (some ⟨r,0,none⟩) l.length nc) l (some r):=
 ⟨⟨VG l,.inr ⟨r,nc,rest,rfl,rfl,Hp.aF _ _ _,h3,h2⟩⟩,λr' e=>by obtain rfl:=dO e;exact YK hi hr⟩
section
variable{P:bF}[Tz P]{H:Hp}{d:Option Nat}{next:aN->Hp->Prop}{σ:aN}{x y:Operand}
theorem Wa4[Enc α]{sT T:TypeId}{gR:Nat}{zv w:Value}{l:List α}(hu:P.toProgram.underlying sT=some (.slice E))(ti:TI P.toProgram E (Enc.sz α) zv gR)(hz:zv.cells.size=Enc.sz α)(he:0<Enc.sz α)
  (hr:H0 r=none) (hH:H=H0.ins r (.cells #[] E)) (hw:aV H w l) (h1:((Zb l).all Value.dZ)=true) (gI:l.length<=1000000000) (kS:gR<=1000) (e1:σ.get x=some (.slice (some ⟨r,0,none⟩) 0 0)) (e2:σ.get y=some w) (bB:P.still H.gh=false)
  (h:∀v' H' b',bO H H'->fZ H0 H' E v' l b'->next (σ.set d v') H'):(bC.raw (.call { callee:=.builtin .append,args:=#[x,y],argTypes:=#[sT,sT] }) T).m P d next σ H:=by
 have hi:bO H0 H:=by rw[hH];exact Zt hr
 obtain⟨A,c,rfl,h2⟩:=hw;by_cases hn:l=[]
 ·subst hn;refine Waz hu ti hz he e1 e2 (m:=0) (xs:=[]) (.inl ⟨rfl,A,c,rfl⟩) (by simp) rfl O kS bB (λ_=>?_) λr' nc rest uP Hd sX=>?_
  ·exact h _ _ (some r) (.refl _) (by rw[hH];exact Wa1 hr)
  exact h _ _ (some r') (Zt uP) (Cs (l:=([]:List α)) hi uP Hd sX)
 obtain⟨a,rfl,hc⟩:=h2 hn;refine Waz hu ti hz he e1 e2 (m:=l.length) (xs:=Zb l) (.inr ⟨a,c,rfl,hc⟩) (VG l) h1 gI kS bB (λh0=>absurd (qAf h0) hn) λr' nc rest uP Hd sX=>?_;exact h _ _ (some r') (Zt uP) (Cs hi uP Hd sX)
end
end
variable{x:N4}
def CM(x y:N4):Prop:=∃i,i<4/\x.get i<y.get i/\∀j,j<i->x.get j=y.get j
theorem CM.CH{y:N4}(h:CM x y)(h':CM y x):False:=by
 obtain⟨i,hi,h1,h2⟩:=h;obtain⟨j,hj,h3,h4⟩:=h';rcases Nat.lt_trichotomy i j with e | e | e
 ·have:=h4 i e;omega
 ·subst e;omega
 have:=h2 j e;omega
theorem Wa7{l l':List N4}(h1:l.Pairwise CM)(h2:l'.Pairwise CM)(h:∀x,x∈l↔x∈l'):l=l':=by have p:l.Perm l':=(List.perm_ext_iff_of_nodup (h1.imp λh e=>by subst e;exact h.CH h) (h2.imp λh e=>by subst e;exact h.CH h)).2 h;exact p.eq_of_pairwise (le:=CM) (λa b _ _ x y=>(x.CH y).elim) h1 h2
theorem MT{α:Type}{f:Int->List α}{hi:Int}{x:α}:∀{c:Nat},x∈rZ f hi c↔∃v,hi-c<v/\v<=hi/\x∈f v
 | 0=>by
  rw[rZ];constructor
  ·intro h;simp at h
  rintro⟨v,h1,h2,_⟩;omega
 | c+1=>by
  rw[rZ,qAS,MT];constructor
  ·rintro(h | ⟨v,h1,h2,h3⟩)
   ·exact⟨hi-c,O,O,h⟩
   exact⟨v,O,h2,h3⟩
  rintro⟨v,h1,h2,h3⟩;by_cases e:v=hi-c
  ·subst e;exact .inl h3
  exact .inr ⟨v,O,h2,h3⟩
theorem TA{α:Type}{R:α->α->Prop}{f:Int->List α}{hi:Int}(h1:∀v,(f v).Pairwise R)(h2:∀v w,v<w->∀x∈f v,∀y∈f w,R x y):∀c,(rZ f hi c).Pairwise R
 | 0=>by rw[rZ];exact .nil
 | c+1=>by rw[rZ,List.pairwise_append];refine⟨h1 _,TA h1 h2 c,λx hx y hy=>?_⟩;obtain⟨w,q1,q2,q3⟩:=MT.1 hy;exact h2 _ w O x hx y q3
theorem FB{b:Sb}:∀{r:Nat} {m x:N4},r<=b.pk.length->b.pk.length<=4->(x∈dS b r m↔(∀j,j<4->(j<b.pk.length-r\/b.pk.length<=j)->x.get j=m.get j)/\(∀j,b.pk.length-r<=j->j<b.pk.length->(aZ b j).lo<=x.get j/\x.get j<=(aZ b j).hi)/\fE b x=true)
 | 0,m,x,_,_=>by
  rw[dS];constructor
  ·intro h;split at h
   ·obtain rfl:=DO.1 h;exact⟨λ_ _ _=>rfl,λj h1 h2=>O,by assumption⟩
   simp at h
  rintro⟨h1,_,h3⟩;have:x=m:=N4.ext' λj hj=>h1 j hj O;subst this;rw[iO h3];simp
 | r+1,m,x,hr,hn=>by
  rw[dS,MT];obtain⟨i,hi⟩:∃i,b.pk.length-(r+1)=i:=⟨_,rfl⟩;rw[hi];constructor
  ·rintro⟨v,h1,h2,h3⟩;obtain⟨g1,g2,g3⟩:=(FB O hn).1 h3;refine⟨λj hj hh=>?_,λj x7 oX=>?_,g3⟩
   ·rw[g1 j hj O,N4.fA _ _ hj,bY O]
   by_cases e:j=i
   ·subst e;have:=g1 j O O;rw[N4.fA _ _ O,iO rfl]at this;omega
   exact g2 j O oX
  rintro⟨g1,g2,g3⟩;have:=g2 i O O;refine⟨x.get i,O,O,(FB O hn).2 ⟨λj hj hh=>?_,λj h1 h2=>g2 j O h2,g3⟩⟩;rw[N4.fA _ _ hj];split
  ·rename_i e;rw[e]
  exact g1 j hj O
theorem Cy{b:Sb}:∀{r:Nat} {m:N4},r<=b.pk.length->b.pk.length<=4->(dS b r m).Pairwise CM
 | 0,m,_,_=>by rw[dS];split<;>simp
 | r+1,m,hr,hn=>by
  rw[dS];obtain⟨i,hi⟩:∃i,b.pk.length-(r+1)=i:=⟨_,rfl⟩;rw[hi];refine TA (λv=>Cy O hn) (λv w hvw x hx y hy=>?_) _;have g:=((FB O hn).1 hx).1;have g':=((FB O hn).1 hy).1;refine⟨i,O,?_,λj hj=>?_⟩
  ·rw[g i O O,g' i O O,N4.fA _ _ O,N4.fA _ _ O,iO rfl,iO rfl];exact hvw
  rw[g j O O,g' j O O,N4.fA _ _ O,N4.fA _ _ O,bY O,bY O]
theorem De(j:Nat)(hj:j<4):(⟨0,0,0,0⟩:N4).get j=0:=by
 match j,hj with
 | 0,_=>rfl
 | 1,_=>rfl
 | 2,_=>rfl
 | 3,_=>rfl
def TB(b:Sb)(x:N4):Prop:=(∀j,j<b.pk.length->(aZ b j).lo<=x.get j/\x.get j<=(aZ b j).hi)/\∀j,j<4->b.pk.length<=j->x.get j=0
theorem MS{b:Sb}(hn:b.pk.length<=4):x∈Zi b↔TB b x/\fE b x=true:=by
 rw[Zi,FB (aC _) hn,qCG];constructor
 ·rintro⟨h1,h2,h3⟩;exact⟨⟨λj hj=>h2 j (qAR _) hj,λj hj hh=>by rw[h1 j hj (.inr hh),De j hj]⟩,h3⟩
 rintro⟨⟨h1,h2⟩,h3⟩;exact⟨λj hj hh=>by rw[h2 j hj O,De j hj],λj _ hj=>h1 j hj,h3⟩
theorem Cw{b:Sb}(hn:b.pk.length<=4):(Zi b).Pairwise CM:=Cy (aC _) hn
theorem MR(b:Sb){i:Nat}(lo hi:Int)(h:i<b.pk.length)(j:Nat):aZ (Vy b i lo hi) j=if j=i then{ aZ b i with lo:=lo,hi:=hi }else aZ b j:=by
 show(b.pk.set i _).getD j _=_;rw[qAo,qCY];by_cases e:j=i
 ·subst e;simp[h]
 rw[bY (qAi e),bY e];rfl
theorem Da(b:Sb)(i:Nat)(lo hi:Int):(Vy b i lo hi).pk.length=b.pk.length:=IF
theorem Wbd{b:Sb}{i:Nat}{lo hi:Int}(hn:b.pk.length<=4)(gJ:i<b.pk.length)(h1:(aZ b i).lo<=lo)(h2:hi<=(aZ b i).hi) :
  Zi (Vy b i lo hi)=(Zi b).filter λt=>decide (lo<=t.get i/\t.get i<=hi):=by
 have hl:=Da b i lo hi;refine Wa7 (Cw O) ((Cw hn).filter _) λx=>?_;rw[MS O,qAF,MS hn,TB,TB,hl];have hr:fE (Vy b i lo hi) x=fE b x:=rfl;rw[hr,decide_eq_true_iff];constructor
 ·rintro⟨⟨g1,g2⟩,g3⟩;have gi:=g1 i gJ;rw[MR _ _ _ gJ,iO rfl]at gi;refine⟨⟨⟨λj hj=>?_,g2⟩,g3⟩,gi⟩;by_cases e:j=i
  ·subst e;exact⟨qBz h1 gi.1,qBz gi.2 h2⟩
  have:=g1 j hj;rwa [MR _ _ _ gJ,bY e]at this
 rintro⟨⟨⟨g1,g2⟩,g3⟩,g4⟩;refine⟨⟨λj hj=>?_,g2⟩,g3⟩;rw[MR _ _ _ gJ];split
 ·rename_i e;rw[e];exact g4
 exact g1 j hj
theorem Wa0{b:Sb}(ok:fN b){i:Nat}(h:i<b.pk.length):(1<=(aZ b i).lo/\(aZ b i).lo<=(aZ b i).hi/\(aZ b i).hi<=20)/\(aZ b i).hi-(aZ b i).lo<3/\(1<=(aZ b i).fK/\(aZ b i).fK<=20)/\(1<=(aZ b i).fW/\(aZ b i).fW<=20):=by rw[aZ,ZA h];exact ok.pk i h
def kN(i:Nat)(ts:List N4)(c:Int):Int:=((ts.filter λt=>decide (t.get i=c)).length:Int)
theorem KG(i:Nat)(ts:List N4)(t:N4)(c:Int):kN i (ts++[t]) c=kN i ts c+if t.get i=c then 1 else 0:=by
 rw[kN,kN,qCT,qAc];by_cases h:t.get i=c
 ·rw[iO h,qDd,iO (decide_eq_true h)];simp
 rw[bY h,qDd,bY (by simpa using h)];simp
theorem Cu{i:Nat}(hi:i<4){t u:N4}:Vo i t=Vo i u↔t.get i=u.get i:=by
 constructor
 ·intro h;have:=qAC (λx=>N4.get x i) h;simp only[Vo,N4.fA _ _ hi,iO]at this;exact this
 intro h;rw[Vo,Vo,h]
theorem WaE{i:Nat}(hi:i<4):∀ts:List N4,(∀u:N4,ZE (ts.foldl (UR i) ([],0)).1 (Vo i u)=kN i ts (u.get i))/\(∀u:N4,kN i ts (u.get i)<=(ts.foldl (UR i) ([],0)).2)/\((ts.foldl (UR i) ([],0)).2=0\/∃t∈ts,(ts.foldl (UR i) ([],0)).2=kN i ts (t.get i)):=by
 refine WaV ⟨λc=>rfl,λc=>qAy _,.inl rfl⟩ λts t ⟨h1,h2,h3⟩=>?_;rw[qCw];generalize ts.foldl (UR i) ([],0)=s at *;show(∀u:N4,ZE (UR i s t).1 (Vo i u)=_)/\(∀u:N4,_<=(UR i s t).2)/\((UR i s t).2=0\/∃x∈ts++[t],(UR i s t).2=_);have e1:∀u,ZE (Zz s.1 (Vo i t) (ZE s.1 (Vo i t)+1)) (Vo i u)=kN i (ts++[t]) (u.get i):=λu=>by
  rw[WS,KG];by_cases h:t.get i=u.get i
  ·rw[iO ((Cu hi).2 h.symm),iO h,h1,h]
  rw[bY (λe=>h ((Cu hi).1 e).symm),bY h,h1,Int.add_zero]
 refine⟨e1,λu=>?_,?_⟩
 ·show _<=max s.2 (ZE _ (Vo i t));rw[e1];have:=h2 u;by_cases h:t.get i=u.get i
  ·rw[h];omega
  rw[KG i ts t (u.get i),bY h];omega
 show max s.2 (ZE _ (Vo i t))=0\/∃x∈ts++[t],max s.2 (ZE _ (Vo i t))=_;rw[e1];by_cases hm:s.2<=kN i (ts++[t]) (t.get i)
 ·exact .inr ⟨t,by simp,O⟩
 have hg:0<=kN i (ts++[t]) (t.get i):=by rw[kN];omega
 rcases h3 with h3 | ⟨u,hu,h3⟩
 ·omega
 refine .inr ⟨u,by simp[hu],?_⟩;have dG:¬ t.get i=u.get i:=λe=>by have h4:=KG i ts t (t.get i);rw[iO rfl,e]at h4;rw[e]at hm;omega
 have e2:kN i (ts++[t]) (u.get i)=kN i ts (u.get i):=by rw[KG,bY dG,Int.add_zero]
 rw[e2];omega
theorem Dc{i:Nat}(hi:i<4)(ts:List N4)(c:Int):kN i ts c<=rP i ts:=by have:=(WaE hi ts).2.1 ((⟨0,0,0,0⟩:N4).dD i c);rwa [N4.fA _ _ hi,iO rfl]at this
theorem Db{i:Nat}(hi:i<4){ts:List N4}(h:ts≠[]):∃t∈ts,rP i ts=kN i ts (t.get i):=by
 rcases(WaE hi ts).2.2 with h0 | h1
 ·exfalso;obtain⟨x,hx⟩:=List.exists_mem_of_ne_nil _ h;have h2:=Dc hi ts (x.get i);have h3:0<kN i ts (x.get i):=by have:=List.length_pos_of_mem (qAF.2 ⟨hx,by simp⟩:x∈ts.filter λt=>decide (t.get i=x.get i));rw[kN];omega
  have h4:rP i ts=0:=h0;omega
 exact h1
theorem TD(i:Nat)(ts:List N4)(c:Int):0<=kN i ts c/\kN i ts c<=ts.length:=by have:=qBZ (λt:N4=>decide (t.get i=c)) ts;rw[kN];omega
theorem Dd{i:Nat}(hi:i<4)(ts:List N4):0<=rP i ts/\rP i ts<=ts.length:=by
 by_cases h:ts=[]
 ·subst h;exact⟨qAy _,qAy _⟩
 obtain⟨t,_,e⟩:=Db hi h;rw[e];exact TD ..
theorem WaG{ts:List N4}:∀n,n<=4->((Y7 ts n).1=-1/\(Y7 ts n).2=ts.length\/∃j:Nat,j<n/\(Y7 ts n).1=j/\(Y7 ts n).2=rP j ts/\(Y7 ts n).2<ts.length)/\(∀i,i<n->(Y7 ts n).2<=rP i ts)/\∀i:Nat,i<n->(i:Int)<(Y7 ts n).1->(Y7 ts n).2<rP i ts
 | 0,_=>⟨.inl ⟨rfl,rfl⟩,λi h=>O,λi h=>O⟩
 | n+1,hn=>by
  obtain⟨h1,h2,h3⟩:=WaG n O (ts:=ts);have hN:=Dd (show n<4 by omega) ts;rw[Y7];split
  ·rename_i h;refine⟨.inr ⟨n,O,rfl,rfl,?_⟩,λi hi=>?_,λi hi bV=>?_⟩
   ·show rP n ts<_;rcases h1 with⟨_,h1⟩ | ⟨_,_,_,_,h1⟩<;>omega
   ·show rP n ts<=_;by_cases hn:i<n
    ·have:=h2 i hn;omega
    obtain rfl:i=n:=O;exact qAy _
   show rP n ts<_;have bV:(i:Int)<(n:Int):=bV;have:=h2 i O;omega
  rename_i h;refine⟨?_,λi hi=>?_,λi hi bV=>?_⟩
  ·rcases h1 with h1 | ⟨j,hj,h1⟩
   ·exact .inl h1
   exact .inr ⟨j,O,h1⟩
  ·by_cases hn:i<n
   ·exact h2 i hn
   obtain rfl:i=n:=O;omega
  by_cases hn:i<n
  ·exact h3 i hn bV
  obtain rfl:i=n:=O;rcases h1 with h1 | ⟨j,hj,h1⟩
  ·omega
  omega
theorem Wa3{b:Sb}{i:Nat}{z:Int}(hn:b.pk.length<=4)(hi:i<b.pk.length)(h:(aZ b i).lo<=z/\z<=(aZ b i).hi):((Zi (Vy b i z z)).length:Int)=kN i (Zi b) z:=by rw[Wbd hn hi h.1 h.2,kN];congr 2;exact List.filter_congr λt _=>qCC.2 O
def jW(f:Int->Int)(lo:Int):Nat->Int
 | 0=>0
 | k+1=>max (jW f lo k) (f (lo+k))
theorem MQ{f:Int->Int}{lo:Int}:∀{k j:Nat},j<k->f (lo+j)<=jW f lo k
 | 0,j,h=>absurd h (qBh _)
 | k+1,j,h=>by
  rw[jW];by_cases e:j=k
  ·subst e;omega
  have:=MQ (f:=f) (lo:=lo) (k:=k) (j:=j) O;omega
theorem WaD{f:Int->Int}{lo c:Int}(h:∀z,f z<=c)(h0:0<=c):∀k,jW f lo k<=c
 | 0=>h0
 | k+1=>by rw[jW];have:=WaD h h0 (lo:=lo) k;have:=h (lo+k);omega
theorem Wa5{b:Sb}{i:Nat}(hn:b.pk.length<=4)(hi:i<b.pk.length):jW (kN i (Zi b)) (aZ b i).lo ((aZ b i).hi-(aZ b i).lo+1).toNat=rP i (Zi b):=by
 have hr:=Dd (show i<4 by omega) (Zi b);have h1:=WaD (f:=kN i (Zi b)) (lo:=(aZ b i).lo) (Dc (show i<4 by omega) (Zi b)) hr.1 ((aZ b i).hi-(aZ b i).lo+1).toNat;by_cases he:Zi b=[]
 ·rw[he]at hr h1 ⊢;have:0<=jW (kN i []) (aZ b i).lo ((aZ b i).hi-(aZ b i).lo+1).toNat:=by
   cases ((aZ b i).hi-(aZ b i).lo+1).toNat with
   | zero=>exact qAy _
   | succ k=>
    have:=MQ (f:=kN i []) (lo:=(aZ b i).lo) (qCD k);exact qBz (TD i [] _).1 this
  have:rP i []=0:=rfl;omega
 obtain⟨t,ht,e⟩:=Db (show i<4 by omega) he;have hs:=((MS hn).1 ht).1.1 i hi;have:=MQ (f:=kN i (Zi b)) (lo:=(aZ b i).lo) (k:=((aZ b i).hi-(aZ b i).lo+1).toNat) (j:=(t.get i-(aZ b i).lo).toNat) O;rw[show(aZ b i).lo+((t.get i-(aZ b i).lo).toNat:Int)=t.get i by omega]at this;omega
def Kj(b:Sb):Int:=if Zi b=[]then 0 else(Y7 (Zi b) b.pk.length).1
def Ki(b:Sb):Int:=if Zi b=[]then 0 else(Y7 (Zi b) b.pk.length).2
section
variable{P:bF}[Tz P][Loud P]{H:Hp}{b:Sb}
theorem WaH(ok:fN b)(hb:Zs H b)(hg:Yl H):LL.Zc P 19 #[b.v] H λv H'=>bO H H'/\v=.tuple #[vi (Zi b).length,vi 0]:=
 LL.Zc.mono (Kn hb ok.pJ hg) λv H' h=>by rw[iO (RE ok),RE ok]at h;exact h
theorem Wbf(ok:fN b)(hb:Zs H b)(hg:Yl H):LL.Zc P 59 #[b.v] H λv H'=>bO H H'/\v=.tuple #[vi (Kj b),vi (Ki b),vi (bS b)]:=
 LL.Zc.mono (Xq hb ok.pJ hg) λv H' h=>by rw[lT ok,v7,v7]at h;exact h
end
def GM(b:Sb)(i:Nat)(lo hi:Int)(A:Option Addr)(c:Nat):Sb:={ b with pk:=b.pk.set i { aZ b i with lo:=lo,hi:=hi },A1:=A,c1:=c }
section
variable{P:bF}[Tz P][Loud P]{H:Hp}
theorem WaW{b:Sb}{i:Nat}{lo hi:Int}(hb:Zs H b)(gJ:i<b.pk.length)(hl:b.pk.length<=1000000) :
  LL.Zc P 42 #[b.v,vi i,.agg #[vi lo,vi hi]] H λv H'=>bO H H'/\∃A c,v=(GM b i lo hi A c).v/\Zs H' (GM b i lo hi A c):=by
 refine aO.m (cF Wbb) (args:=[b.v,vi i,.agg #[vi lo,vi hi]]) rfl ?_;unfold Qz Sb.v;refine Y ?_;refine RF (dC FC) (eI KH) (OL _) λr1 pL=>Y ?_;refine Wa4 (l:=b.pk) (dC FC) (eI KH) rfl (by decide) pL rfl (hb.pk.bA (Zt pL)) (RH (λ_=>rfl) b.pk) O O rfl rfl (OL _) λv2 H2 b2 i2 o2=>?_;have i02:bO H H2:=(Zt (o:=.cells #[] 50) pL).trans i2;obtain⟨_,⟨_,h2,_⟩ | ⟨r,cap,rest,rfl,rfl,f3,f4,f5⟩⟩:=id o2.own
 ·exact absurd h2 O
 have hr:=o2.fresh r rfl;refine Y ?_;refine OF rfl rfl gJ (Y ?_);have I8:((⟨r,0,none⟩:Addr).add (i * 5)).add 1=⟨r,i * 5+1,none⟩:=by rw[Vw,Vw,qAu]
 rw[I8];refine OD (v:=.agg #[vi lo,vi hi]) (cs:=Zb b.pk++rest) (eI Rn) rfl rfl f3 rfl (by rw[qAc,VG];show i * 5+1+2<=b.pk.length * 5+_;omega) rfl (OL _) ?_;have e5:ZH (Zb b.pk++rest) (i * 5+1) (Value.cells (.agg #[vi lo,vi hi])).toList=Zb (b.pk.set i { aZ b i with lo:=lo,hi:=hi })++rest:=by show ZH _ _ [vi _,vi _]=_;rw[Kp lo hi b.pk i gJ rest,aZ,ZA gJ]
 rw[e5];have i3:bO H (H2.ins r (.cells (Zb (b.pk.set i { aZ b i with lo:=lo,hi:=hi })++rest).toArray 50)):=RG i02 hr;refine Y ?_;refine⟨i3,some ⟨r,0,none⟩,cap,?_,⟨_,cap,rfl,λ_=>⟨_,rfl,YM (ds:=rest) (ZC (Hp.aF _ _ _))⟩⟩,hb.nt.bA i3,λx hx=>(hb.ps x hx).bA i3,?_,hb.q2⟩
 ·show Value.agg _=Value.agg #[vi b.pl,vi b.hd,vi b.td,.slice (some ⟨r,0,none⟩) (b.pk.set i _).length cap,.slice b.A2 b.nt.length b.c2];rw[IF];rfl
 show(b.pk.set i _).length<=cap;rw[IF];exact f5
end
theorem Cz{l:List Pk}{i:Nat}(lo hi:Int)(h:i<l.length)(j:Nat)(hj:j<(l.set i { l[i]with lo:=lo,hi:=hi }).length):(l.set i { l[i]with lo:=lo,hi:=hi })[j].nm=(l[j]'(by simpa using hj)).nm:=by
 rw[List.getElem_set];split
 ·rename_i e;subst e;rfl
 rfl
theorem WaI{b:Sb}(ok:fN b){i:Nat}{lo hi:Int}(h:i<b.pk.length)(h1:(aZ b i).lo<=lo)(h2:lo<=hi)(h3:hi<=(aZ b i).hi):fN (Vy b i lo hi):=by
 have e:aZ b i=b.pk[i]:=ZA h _;have hp:=ok.pk i h;rw[e]at h1 h3;have hl:(Vy b i lo hi).pk=b.pk.set i { b.pk[i]with lo:=lo,hi:=hi }:=by show b.pk.set i _=_;rw[e]
 have dJ:(Vy b i lo hi).pk.length=b.pk.length:=Da b i lo hi;refine⟨ok.pl,ok.hd,ok.td,by rw[dJ];exact ok.n,λj hj=>?_,λj hj=>?_,ok.nn,by rw[dJ];exact ok.nt⟩
 ·have cH:j<b.pk.length:=by rw[<-dJ];exact hj
  have BF:=ok.pk j cH;simp only[hl,List.getElem_set];split
  ·rename_i e2;subst e2;show(1<=lo/\lo<=hi/\hi<=20)/\hi-lo<3/\_;exact⟨⟨O,h2,O⟩,O,hp.2.2⟩
  exact BF
 have cH:j<b.pk.length:=by rw[<-dJ];exact hj
 obtain⟨g1,g2⟩:=ok.nm j cH;simp only[hl];rw[Cz lo hi h j (by rw[IF];exact cH)];refine⟨g1,?_⟩;rw[List.any_eq_false]at g2 ⊢;intro x hx;obtain⟨k,hk,rfl⟩:=qAJ.1 hx;rw[qBm,IF]at hk;rw[List.getElem_take,Cz lo hi h k (by rw[IF];omega)];have yY:k<(b.pk.take j).length:=by rw[qBm];omega
 have:=g2 _ (IN yY);rw[List.getElem_take]at this;exact this
theorem Wa6{b:Sb}(ok:fN b)(A1 A2:Option Addr)(c1 c2:Nat):fN { b with A1:=A1,c1:=c1,A2:=A2,c2:=c2 }:=⟨ok.pl,ok.hd,ok.td,ok.n,ok.pk,ok.nm,ok.nn,ok.nt⟩
theorem WaJ{b:Sb}(ok:fN b){i:Nat}{lo hi:Int}(A:Option Addr)(c:Nat)(h:i<b.pk.length)(h1:(aZ b i).lo<=lo)(h2:lo<=hi)(h3:hi<=(aZ b i).hi):fN (GM b i lo hi A c):=Wa6 (WaI ok h h1 h2 h3) A b.A2 c b.c2
theorem WaK{b:Sb}{i:Nat}{lo hi:Int}{A:Option Addr}{c:Nat}:Zi (GM b i lo hi A c)=Zi (Vy b i lo hi):=Ko rfl rfl
theorem WaX{b:Sb}{i:Nat}(h:i<b.pk.length):Enc.enc b.pk[i]=[.string (aZ b i).nm,vi (aZ b i).lo,vi (aZ b i).hi,vi (aZ b i).fK,vi (aZ b i).fW]:=by rw[show b.pk[i]=aZ b i from(ZA h _).symm];rfl
section
variable{P:bF}[Tz P][Loud P]{H:Hp}
theorem WaF{b:Sb}{i:Nat}(ok:fN b)(gJ:i<b.pk.length)(hb:Zs H b)(hg:Yl H):LL.Zc P 60 #[b.v,vi i] H λv H'=>bO H H'/\v=.tuple #[vi (rP i (Zi b)),vb true]:=by
 have hn:=ok.n;have hp:=Wa0 ok gJ;have row:=WaX gJ;refine aO.m (cF Wba) (args:=[b.v,vi i]) rfl ?_;unfold WaA Sb.v;refine Y ?_;refine Zx hb.pk rfl rfl rfl (i:=i) gJ λa ha=>?_;rw[row]at ha;refine Y ?_;refine Zg (v:=vi (aZ b i).lo) (OL _) rfl (YM (ds:=[vi (aZ b i).hi,vi (aZ b i).fK,vi (aZ b i).fW]) (CL (n:=0) (CL (n:=1) ha rfl) rfl)) (Y ?_);refine Zw ((aZ b i).hi-(aZ b i).lo+1).toNat (λj H'=>bO H H') (λj=>[(1,vi i),(2,vi 0),(4,vi 0),(5,vb false),(6,vi (jW (kN i (Zi b)) (aZ b i).lo j)),(7,vi ((aZ b i).lo+j))]) (λ_=>[(2,b.cs)]) (.refl _) ⟨rfl,rfl,rfl,rfl,rfl,by rw[Int.ofNat_zero,Int.add_zero];rfl,trivial⟩ V ?_;rintro j H1 hj i1;refine Y ?_;refine Zx (hb.pk.bA i1) rfl rfl rfl (i:=i) gJ λa ha=>?_;rw[row]at ha;refine Y ?_;refine Zg (v:=vi (aZ b i).hi) (OL _) rfl (YM (ds:=[vi (aZ b i).fK,vi (aZ b i).fW]) (CL (n:=1) (CL (n:=1) ha rfl) rfl)) (Y ?_);refine OI (λh1=>?_) (λh1=>?_)
 ·obtain⟨z,hz⟩:∃z,z=(aZ b i).lo+j:=⟨_,rfl⟩;rw[<-hz]at h1 ⊢;have dJ:=Wa3 (z:=z) hn.2 gJ O;have F1:=TD i (Zi b) z;have Ww:=UI ok;have hm:jW (kN i (Zi b)) (aZ b i).lo (j+1)=max (jW (kN i (Zi b)) (aZ b i).lo j) (kN i (Zi b) z):=by rw[jW,hz]
  refine Y ?_;refine Za (vs:=[vi z]) rfl (LO z) ?_;rintro v _ ⟨rfl,rfl⟩;refine Zq OL (Y ?_);refine Za (vs:=[b.v,vi i,.agg #[vi z,vi z]]) rfl (WaW (hb.bA i1) gJ O) ?_;rintro v H2 ⟨i2,A,c,rfl,kS⟩;have ok2:=WaJ ok A c gJ (lo:=z) (hi:=z) O (qAy _) O;refine Y ?_;refine Za (vs:=[(GM b i z z A c).v]) rfl (WaH ok2 kS (aD.bA hg (i1.trans i2))) ?_;rintro v H3 ⟨i3,rfl⟩;rw[WaK,dJ];refine Y ?_;refine LN rfl rfl (Y ?_);exact⟨⟨j+1,O⟩,dX O,(i1.trans i2).trans i3,⟨rfl,rfl,rfl,rfl,by rw[hm];rfl,by show some (vi (z+1))=some (vi ((aZ b i).lo+((j+1:Nat):Int)));rw[show(aZ b i).lo+((j+1:Nat):Int)=z+1 by omega],trivial⟩,V,rfl⟩
 have:j=((aZ b i).hi-(aZ b i).lo+1).toNat:=O;subst this;rw[Wa5 hn.2 gJ];refine Y ?_;exact⟨i1,rfl⟩
theorem WaT(jS:P=PP){b:Sb}{m:Int}(hb:Zs H b)(hm:0<=m/\m<256)(hg:Yl H)(fU:aD H ⟨1,0,none⟩ [vf 284]) :
  WaC.m P (FA P Cv λv _=>v=vb true) (Vu [b.v,.int .u8 m]) H:=by
 unfold WaC Sb.v;refine Y ?_;refine Za (vs:=[b.v]) rfl (vG hb) ?_;rintro v _ ⟨rfl,g,rfl,m7⟩;cases g with
 | false=>
  refine Y ?_;refine Za (vs:=[]) rfl (eQ jS hg fU) ?_;rintro v H1 ⟨_,rfl⟩;refine Y ?_;rfl
 | true=>
 have ok:=m7 rfl;have hn:=ok.n;refine Y ?_;refine Za (vs:=[b.v]) rfl (Wbf ok hb hg) ?_;rintro v H1 ⟨i1,rfl⟩;refine Y ?_;refine Za (vs:=[b.v]) rfl (WaH ok (hb.bA i1) (aD.bA hg i1)) ?_;rintro v H2 ⟨j2,rfl⟩;have i2:=i1.trans j2;have GB:=aD.bA hg i2;have uU:=aD.bA fU i2;have kS:=hb.bA i2;by_cases hz:Zi b=[]
 ·rw[show bS b=9 from iO hz,show Kj b=0 from iO hz,show Ki b=0 from iO hz,hz];refine Y ?_;refine Cr rfl rfl (Y ?_);refine Za (vs:=[]) rfl (eQ jS GB uU) ?_;rintro v H3 ⟨_,rfl⟩;refine Y ?_;rfl
 have eU:=qBM.2 hz;have Ww:=UI ok;obtain⟨a1,a2,a3⟩:=WaG (ts:=Zi b) b.pk.length hn.2;rw[CG hz,show Kj b=(Y7 (Zi b) b.pk.length).1 from bY hz,show Ki b=(Y7 (Zi b) b.pk.length).2 from bY hz];generalize(Y7 (Zi b) b.pk.length).1=k at *;generalize(Y7 (Zi b) b.pk.length).2=left at *;have hk:-1<=k/\k<=b.pk.length-1:=by rcases a1 with⟨h,_⟩ | ⟨j,hj,h,_⟩<;>omega
 have IK:(k<0->left=(Zi b).length)/\(0<=k->left<(Zi b).length):=by
  rcases a1 with⟨h,h2⟩ | ⟨j,hj,h,_,h2⟩
  ·exact⟨λ_=>h2,λh3=>O⟩
  exact⟨λh3=>O,λ_=>h2⟩
 obtain⟨n,BJ⟩:∃n,n=(Zi b).length:=⟨_,rfl⟩;rw[<-BJ]at eU IK Ww ⊢;refine Y ?_;refine Cr rfl rfl ?_;rw[decide_eq_true (show(0:Int)<((n:Nat):Int)by omega)];refine OB ?_;refine Yb ?_;refine OB ?_;refine Z4 (ι:=Unit) (λ_ H'=>H2=H') (λ_=>[(1,.int .u8 m),(2,vi 0),(5,vi k),(6,vi left)]) (λ_=>[(2,b.cs)]) ?_ ?_
 ·refine Y ?_;refine Za (vs:=[vi k,vi (-1),vi (b.pk.length-1)]) rfl (E9 _ _ _) ?_;rintro v _ ⟨rfl,rfl⟩;rw[decide_eq_true (show -1<=k/\k<=(b.pk.length:Int)-1 from hk)];refine Y ?_;refine OI (λh3=>?_) (λh3=>?_)
  ·refine Y ?_;refine OI (λh4=>?_) (λh4=>?_)
   ·exact absurd (IK.1 h3) (by simpa using h4)
   refine Y ?_;refine OI (λh5=>?_) (λh5=>?_)
   ·exact absurd h5 O
   refine Y ?_;exact⟨(),rfl,V,V,rfl⟩
  refine Y ?_;refine OI (λh5=>?_) (λh5=>?_)
  ·refine Y ?_;refine OI (λh6=>?_) (λh6=>?_)
   ·exact absurd h6 (by have:=IK.2 O;omega)
   refine Y ?_;exact⟨(),rfl,V,V,rfl⟩
  exact absurd h5 O
 rintro _ _ rfl;refine Y ?_;refine Vr (dC Tryz.underlying5) (dC Tryz.underlying3) rfl ?_;rw[Uk (show wC m from⟨O,O⟩)];refine Y ?_;refine AB rfl rfl O ?_;obtain⟨i,hi,ei⟩:=rY (n:=b.pk.length) hm.1 O;rw[ei];refine Y ?_;refine Za (vs:=[b.v,vi i]) rfl (WaF ok hi kS GB) ?_;rintro v H3 ⟨i3,rfl⟩;have b2:=a2 i hi;have b3:=a3 i hi;refine OB ?_;refine Z4 (ι:=Unit) (λ_ H'=>H3=H') (λ_=>[(2,vi 0),(5,vi k),(6,vi left),(11,vi (rP i (Zi b))),(12,vb true)]) (λ_=>[(2,b.cs)]) ?_ ?_
 ·refine Y ?_;refine OI (λh3=>?_) (λh3=>?_)
  ·exact absurd h3 O
  refine Y ?_;refine OI (λh4=>?_) (λh4=>?_)
  ·refine Y ?_;refine OI (λh5=>?_) (λh5=>?_)
   ·refine Y ?_;refine OI (λh6=>?_) (λh6=>?_)
    ·exact absurd h6 O
    refine Y ?_;exact⟨(),rfl,V,V,rfl⟩
   refine Y ?_;exact⟨(),rfl,V,V,rfl⟩
  refine Y ?_;exact⟨(),rfl,V,V,rfl⟩
 rintro _ _ rfl;have Ik:=aD.bA GB i3;have P7:=aD.bA uU i3;refine Y ?_;refine OI (λh7=>?_) (λh7=>?_)
 ·rcases a1 with⟨h,_⟩ | ⟨j,hj,rfl,e,e2⟩
  ·exact absurd h7 O
  refine Y ?_;refine Za (vs:=[b.v,vi j]) rfl (WaF ok hj (kS.bA i3) Ik) ?_;rintro v H4 ⟨i4,rfl⟩;refine Y ?_;refine OI (λh9=>?_) (λh9=>?_)
  ·refine Y ?_;refine Za (vs:=[]) rfl (eQ jS (aD.bA Ik i4) (aD.bA P7 i4)) ?_;rintro v H5 ⟨_,rfl⟩;refine Y ?_;rfl
  exact absurd e.symm h9
 refine Y ?_;refine OI (λh8=>?_) (λh8=>?_)
 ·refine Y ?_;refine Za (vs:=[]) rfl (eQ jS Ik P7) ?_;rintro v H5 ⟨_,rfl⟩;refine Y ?_;rfl
 exact absurd (show k<0 by omega) h8
end
