import Derived.Test.YtlhomfgcibjccaaGreatDoorP20
set_option linter.all false
set_option maxHeartbeats 1000000
open Go Go.LL
namespace Go.Proofs
variable{r i a n c b off dI k j cap:Nat}{E t e sT SD T:TypeId}{α:Type}{o:Obj}{cs rest:List Value}{xs:List (List Value)}{fv zv w:Value}{f:Int->Bool}{l l':List Int}{ys:Array Value}{b':Option Nat}
theorem US(l:List Int):Zb l=l.map vi:=by
 induction l with
 | nil=>rfl
 | cons a l ih=>simp only[Zb,qAM,qCq]at ih ⊢;rw[ih];rfl
def TS(l:List Int):((Zb l).all Value.cJ)=true:=by rw[US];simp[Value.cJ]
def qY{H:Hp}{x:Int}:aF (H.ins r (.cells [vi x].toArray E)) (.slice (some ⟨r,0,none⟩) 1 1) [x]:=Z0 (l:=[x])
theorem ZD{l:List α}(h:i<l.length)(x:α):l.getD i x=l[i]:=by rw[qAa,qBE h];rfl
def aL(H h:Hp):Prop:=∀b x,H b=some x->h b=some x
def aL.refl(H:Hp):aL H H:=λ_ _ h=>h
def aL.trans{H p m:Hp}(h:aL H p)(q:aL p m):aL H m:=λb x s=>q b x (h b x s)
def _root_.Go.LL.Hp.Sub.inc{H H':Hp}(h:H.Sub H'):aL H H':=h.mem
def Zs{H:Hp}(h:H r=none):aL H (H.ins r o):=(Yf h).mem
def Ue(H J:Hp):aL H (H.join J):=λ_ _ h=>Hp.aW h
def _root_.Go.LL.aC.inc{H H':Hp}{a:Addr}(h:aC H a cs)(u:aL H H'):aC H' a cs:=by obtain⟨m,o,p,q,s⟩:=h;exact⟨m,o,p,u _ _ q,s⟩
def aF.inc[Enc α]{H H':Hp}{v:Value}{l:List α}(h:aF H v l)(z:aL H H'):aF H' v l:=by obtain⟨A,c,m,p⟩:=h;refine⟨A,c,m,λu=>?_⟩;obtain⟨a,q,s⟩:=p u;exact⟨a,q,s.inc z⟩
def xD(xs:List (List Value))(I:Nat->Hp->Prop)(rest:List (List Value))(H:Hp):Prop:=∃p,p+rest.length=xs.length/\xs.drop p=rest/\I p H
def xD.start{I:Nat->Hp->Prop}{H:Hp}(h:I 0 H):xD xs I xs H:=⟨0,by simp,rfl,h⟩
def xD.stop{I:Nat->Hp->Prop}{H:Hp}(h:xD xs I [] H):I xs.length H:=by obtain⟨p,m,_,q⟩:=h;simp at m;rw[<-m];exact q
def xD.call{P:aX}{y:Value}{I:Nat->Hp->Prop}{S:Hp->Prop}{x:List Value}{r:List (List Value)}{H:Hp}
  (C:∀n (D:n<xs.length) H,I n H->ZV P y (xs[n]).toArray H (λv m=>(v=.bool true/\I (n+1) m)\/(v=.bool false/\S m))) (h:xD xs I (x :: r) H) :
  ZV P y x.toArray H (λv m=>(v=.bool true/\xD xs I r m)\/(v=.bool false/\S m)):=by
 obtain⟨p,q,A,B⟩:=h;have s:p<xs.length:=by simp at q;omega
 have e:=qCc s;rw[A]at e;have u:x=xs[p]:=by injection e
 have z:xs.drop (p+1)=r:=by injection e with _ e;exact e.symm
 rw[u];refine(C p s H B).mono ?_;rintro v m (⟨rfl,h⟩ | ⟨rfl,h⟩)
 ·exact .inl ⟨rfl,p+1,by simp at q;omega,z,h⟩
 exact .inr ⟨rfl,h⟩
def QK:Tryz.prog.underlying 105=some (.array 4 3):=U
def Zn9:Yl Tryz.prog 105=some (4,some (.agg #[vi 0,vi 0,vi 0,vi 0]),32):=U
theorem sG{α:Type}[Enc α](h:∀a:α,((Enc.enc a).all Value.cJ)=true):∀l:List α,((Zb l).all Value.cJ)=true
 | []=>rfl
 | a :: l=>by have:=sG h l;simp only[Zb,qAM,qDQ]at this ⊢;rw[h,this];rfl
def Jl{P:aX}{d:Option Nat}{next:aM->Hp->Prop}{σ:aM}{H:Hp}{x:Operand}{t2 ty:TypeId}{A:Option Addr}(z:P.toProgram.underlying t=some (.slice e))(q:σ.get x=some (.slice A n c))(h:next (σ.set d (vb A.isNone)) H) :
  (bE.bU (.binOp .eql t x (.const (.slice none 0 0)) t2) ty).m P d next σ H:=by
 have p:∀v,σ.get (.const v)=some v:=λv=>rfl;refine Vd (by simp[Op.operands,q,p]) ?_ h;have:execOp (λx=>(σ.get x).getD undef) (aR (.binOp .eql t x (.const (.slice none 0 0)) t2) ty)=(do let v <-(do eqGuard .eql t x (.const (.slice none 0 0)) (.slice A n c) (.slice none 0 0);binOp .eql t (.slice A n c) (.slice none 0 0));pure (.value v)):=by simp[execOp,aR,q,p]
 rw[this];refine Uq λQ g H u=>?_;simp only[eqGuard,Zg,Zj];have key:∀d,bL P.toPQ (Op.equalIn (d+1) t (.slice A n c) (.slice none 0 0)) (λb g H=>Q (vb b) g H) g H:=by intro d;simp only[Op.equalIn,Zg,Zw z];cases A<;>exact u
 have:=key 9999;cases A<;>exact(Zg.2 this)
section
variable{P:aX}[Tz P]{H:Hp}
def ZyR{v:Value}(C:∀c∈l,ZV P fv #[vi c] H λv q=>H=q/\v=vb (f c))(z:aF H v l)(F:l.length<=1000000)(u:P.still H.gh=false) :
  LL.Zc P 217 #[v,fv] H λv q=>H=q/\∃r:Int,v=vi r/\(0<=r↔l.any f=true):=by
 refine aJ.m (bG ZvT) (args:=[v,fv]) rfl ?_;unfold Zjg;refine Y ?_;refine YE z rfl (Y ?_);refine Zv l.length (λj q=>H=q/\(l.take j).any f=false) (λj=>[(0,v),(1,fv),(7,vi l.length),(8,vi j)]) (λj=>[]) ⟨rfl,rfl⟩ V trivial ?_;rintro j _ D ⟨rfl,h⟩;refine OJ (λA=>?_) (λA=>?_)
 ·have p:j<l.length:=O;refine Y ?_;refine pN z rfl rfl rfl (i:=j) p λa B=>Y ?_;refine Zh u rfl B (Y ?_);refine ZM rfl rfl (C l[j] (bY p)) ?_;rintro w _ ⟨rfl,rfl⟩;refine OJ (λs=>?_) (λs=>?_)
  ·refine Y ?_;exact⟨rfl,j,rfl,by simp only[qDC,true_iff];rw[qBg];exact⟨l[j],bY p,s⟩⟩
  refine Y ?_;refine⟨⟨j+1,O⟩,bN O,⟨rfl,?_⟩,V,trivial,rfl⟩;show(l.take (j+1)).any f=false;rw[iN p,qDb,h];simp[s]
 have:j=l.length:=O;subst this;rw[IF]at h;refine Y ?_;exact⟨rfl,-1,rfl,by simp[h]⟩
def Zy4{v:Value}(q:∀c∈l,ZV P fv #[vi c] H λv h=>H=h/\v=vb (f c))(z:aF H v l)(s:l.length<=1000000)(p:P.still H.gh=false) :
  LL.Zc P 166 #[v,fv] H λv h=>H=h/\v=vb (l.any f):=by
 refine aJ.m (bG Zv8) (args:=[v,fv]) rfl ?_;unfold Zjv;refine Y ?_;refine ZW (vs:=[v,fv]) rfl (ZyR q z s p) ?_;rintro w _ ⟨rfl,r,rfl,u⟩;refine Y ?_;refine⟨rfl,?_⟩;show vb (decide (0<=r))=vb _;congr 1;rw[qBT,qAR];exact u
def Tq{v:Value}(L:aF H v l)(Q:l.length<=1000000)(h:P.still H.gh=false) :
  LL.Zc P 157 #[v] H λB s=>H.Sub s/\((l=[]/\B=.slice none 0 0)\/∃b,dD H s 3 B l b):=by
 obtain⟨A,c,rfl,F⟩:=L;refine aJ.m (bG Zv7) (args:=[.slice A l.length c]) rfl ?_;unfold Zju;refine Y ?_;refine Jl (bI dW) rfl ?_;refine OJ (λD=>?_) (λD=>?_)
 ·refine Y ?_;refine⟨.refl H,.inl ⟨?_,rfl⟩⟩;refine qAd λu=>?_;obtain⟨a,rfl,_⟩:=F u;simp at D
 refine Y ?_;refine qZ (bI dW) (cD t3) h λr z=>Y ?_;have p:P.still (H.ins r (.cells #[] 3)).gh=false:=h;refine WZ (l:=([]:List Int)) (l':=l) (bI dW) (bI dW) (cD t3) rfl (by decide) (Yf z) (H0:=H) (b:=some r) ⟨Bi,λq e=>by obtain rfl:=iO e;exact z⟩ ⟨A,c,rfl,λu=>by obtain⟨a,G,I⟩:=F u;exact⟨a,G,I.sub (Yf z)⟩⟩ (TS l) (by simp;omega) O rfl rfl p λB s b' J C N=>Y ?_;exact⟨J,.inr ⟨b',by rw[qBt]at C;exact C⟩⟩
end
def sZ(p:Program)(t:TypeId):Option (List (String×TypeId×Nat)×Bool):=match p.underlying t with | some (.struct h)=>some (h.toList.map (λf=>(f.name,f.type,f.offset)),p.stoodInHeld t) | _=>none
def P1{p:Program}{u z:String}{C t2 A B:Nat}{b:Bool}(h:sZ p t=some ([(u,C,A),(z,t2,B)],b)):∃m q:Field,p.underlying t=some (.struct #[m,q])/\(m.name=u/\m.type=C/\m.offset=A)/\(q.name=z/\q.type=t2/\q.offset=B)/\p.stoodInHeld t=b:=by
 unfold sZ at h;split at h
 ·rename_i s F;obtain⟨s⟩:=s;simp only[qAe,qBD]at h;obtain⟨h,D⟩:=h;match s,h with
  | [m,q],h=>
   simp only[qCq,qDo,qBM,qBD]at h;exact⟨m,q,F,h.1,h.2.1,D⟩
 simp at h
def zJ:sZ Tryz.prog 36=some ([("Low",3,0),("High",3,1)],false):=U
def uZ:Tryz.prog.underlying 3=some (.int .i64):=U
def F6:Tryz.prog.underlying 4=some .bool:=U
section
variable{P:aX}[Tz P]{H:Hp}{g:Bool}{d:Nat}
def Vo{cs:Array Value}{v:Value}(h:cs[off]? = some v)(Q:Value->Bool->Hp->Prop):bL P.toPQ (part 3 cs off) Q g H↔Q v g H:=by simp only[part,Zg,OS (zZ (P:=P) a3),DO,qAw,h,Zj]
def TW{t:Nat}{cs:Array Value}(h:Yd Tryz.prog t=some (some n))(Q:Value->Bool->Hp->Prop):bL P.toPQ (part t cs off) Q g H↔Q (.agg (cs.extract off (off+n))) g H:=by obtain⟨i,m,p,q⟩:=K7 (zZ (P:=P) h);simp only[part,Zg,q,qBp,Z4 m,p,Zj]
def CR{a b:Int}(Q:Bool->Bool->Hp->Prop):bL P.toPQ (Op.equalIn (d+1) 3 (vi a) (vi b)) Q g H↔Q (decide (a=b)) g H:=by
 simp only[Op.equalIn,Zg,Zw (bI (P:=P) uZ),qBp,Zj];have:(a == b)=decide (a=b):=by rw[qBT];simp
 rw[this]
def zY(m:sZ Tryz.prog t=some ([("Before",3,0),("By",3,1)],false)\/sZ Tryz.prog t=some ([("Low",3,0),("High",3,1)],false)){a b c e:Int}(Q:Bool->Bool->Hp->Prop)(q:Q (decide (a=c/\b=e)) g H):bL P.toPQ (Op.equalIn (d+1+1) t (.agg #[vi a,vi b]) (.agg #[vi c,vi e])) Q g H:=by
 have F:∀(x y:Int) (Q:Value->Bool->Hp->Prop) g H,bL P.toPQ (part 3 #[vi x,vi y] 0) Q g H↔Q (vi x) g H:=λx y Q g H=>Vo rfl Q;have G:∀(x y:Int) (Q:Value->Bool->Hp->Prop) g H,bL P.toPQ (part 3 #[vi x,vi y] 1) Q g H↔Q (vi y) g H:=λx y Q g H=>Vo rfl Q;rcases m with m | m
 all_goals
  obtain⟨J,K,z,⟨A,I,C⟩,⟨B,t2,D⟩,m⟩:=P1 (p:=P.toProgram) (by rw[Tz.prog (P:=P)];exact m)
  rw[Op.equalIn]
  simp only[Zg,Zw z,V0,m,DO,qAw,Zj]
  simp only[A,B,I,t2,C,D,Zg,qCd,qCb,List.forIn_nil]
  by_cases s:a=c<;>by_cases u:b=e<;>simp[F,G,CR,Zg,Zj,s,u]at q ⊢<;>exact q
def uW(a b:N4):Bool:=decide (a.a=b.a/\a.b=b.b/\a.c=b.c/\a.d=b.d)
def Hy{a b:N4}(Q:Bool->Bool->Hp->Prop)(m:Q (uW a b) g H):bL P.toPQ (Op.equalIn (d+1+1) 105 (Zu a) (Zu b)) Q g H:=by have G:∀(x y z u:Int) (Q:Value->Bool->Hp->Prop) g H,bL P.toPQ (part 3 #[vi x,vi y,vi z,vi u] 0) Q g H↔Q (vi x) g H:=λx y z u Q g H=>Vo rfl Q;have I:∀(x y z u:Int) (Q:Value->Bool->Hp->Prop) g H,bL P.toPQ (part 3 #[vi x,vi y,vi z,vi u] 1) Q g H↔Q (vi y) g H:=λx y z u Q g H=>Vo rfl Q;have J:∀(x y z u:Int) (Q:Value->Bool->Hp->Prop) g H,bL P.toPQ (part 3 #[vi x,vi y,vi z,vi u] 2) Q g H↔Q (vi z) g H:=λx y z u Q g H=>Vo rfl Q;have K:∀(x y z u:Int) (Q:Value->Bool->Hp->Prop) g H,bL P.toPQ (part 3 #[vi x,vi y,vi z,vi u] 3) Q g H↔Q (vi u) g H:=λx y z u Q g H=>Vo rfl Q;obtain⟨F,C,D,L,M⟩:=(cD (P:=P) t3).ex;rw[Op.equalIn];simp only[Zu,Zg,Zw (bI (P:=P) QK),Z4 C,D,Zj];unfold uW at m;have B:List.range' 0 4=[0,1,2,3]:=rfl;simp only[qCQ,Std.Legacy.Range.size,qBI,qAU,Nat.div_one,B,qCb,List.forIn_nil,Zg];by_cases p:a.a=b.a<;>by_cases q:a.b=b.b<;>by_cases s:a.c=b.c<;>by_cases A:a.d=b.d<;>simp[G,I,J,K,CR,Zg,Zj,p,q,s,A]at m ⊢<;>exact m
end
def Zh0{G:Prop} (h:G:=by
  rw[this];refine Uq λQ g H hq=>?_;have KD:P.toProgram.eqGuardType P.toProgram.depth t=false:=by rw[Tz.prog (P:=P)];exact hg
  rw[Zg];unfold eqGuard;simp only[Zg,Zj,qEa,DO,qAw];rw[V0,V0,KD];simp only[qBU,qBp,Zj];exact Zg.2 (hE _ _ _ hq)):G:=h
def CY(p:Program)(t:TypeId):Bool:=p.eqGuardType p.depth t
def EC:CY Tryz.prog 36=false:=U
section
variable{P:aX}[Tz P]{H:Hp}{d:Option Nat}{next:aM->Hp->Prop}{σ:aM}{x y:Operand}{ty t2:TypeId}{v:Value}
def KQ{xs:Array Value}{b:Bool}(hg:CY Tryz.prog t=false)(hE:∀(Q:Bool->Bool->Hp->Prop) (g:Bool) (H:Hp),Q b g H->bL P.toPQ (Op.equalIn (9998+1+1) t (.agg xs) (.agg ys)) Q g H)(p:σ.get x=some (.agg xs))(q:σ.get y=some (.agg ys))(h:next (σ.set d (vb b)) H) :
  (bE.bU (.binOp .eql t x y t2) ty).m P d next σ H:=by
 refine Vd (by simp[Op.operands,p,q]) ?_ h;have:execOp (λx=>(σ.get x).getD undef) (aR (.binOp .eql t x y t2) ty)=(do let v <-(do eqGuard .eql t x y (.agg xs) (.agg ys);binOp .eql t (.agg xs) (.agg ys));pure (.value v)):=by simp[execOp,aR,p,q]
 exact Zh0
def CA{xs:Array Value}{b:Bool}(hg:CY Tryz.prog t=false)(hE:∀(Q:Bool->Bool->Hp->Prop) (g:Bool) (H:Hp),Q b g H->bL P.toPQ (Op.equalIn (9998+1+1) t (.agg xs) (.agg ys)) Q g H)(p:σ.get x=some (.agg xs))(q:σ.get y=some (.agg ys))(h:next (σ.set d (vb !b)) H) :
  (bE.bU (.binOp .neq t x y t2) ty).m P d next σ H:=by
 refine Vd (by simp[Op.operands,p,q]) ?_ h;have:execOp (λx=>(σ.get x).getD undef) (aR (.binOp .neq t x y t2) ty)=(do let v <-(do eqGuard .neq t x y (.agg xs) (.agg ys);binOp .neq t (.agg xs) (.agg ys));pure (.value v)):=by simp[execOp,aR,p,q]
 exact Zh0
def ZsQ{len J hi:Nat}{a:Addr}{k:IntKind}{B:Option Operand}(F:P.toProgram.underlying t=some (.array len e))(M:TI P.toProgram e J zv dI)(D:0<len)(q:σ.get x=some (.pointer (some a)))(s:(B=none/\hi=len)\/∃z,B=some z/\σ.get z=some (.int k (hi:Int)))(K:hi<=len)
  (h:next (σ.set d (.slice (some a) hi len)) H):(bE.bU (.slice t x none B none) ty).m P d next σ H:=by
 obtain⟨L,G,I,N,R⟩:=M.ex;have u:(0:Int)<=(hi:Int)/\(hi:Int)<=(len:Nat):=⟨O,O⟩;have C:a.add (0 * J)=a:=by rw[qDm];rfl
 have p:¬ len=0:=O;rcases s with⟨rfl,rfl⟩ | ⟨z,rfl,s⟩
 ·refine Vd (by simp[Op.operands,q]) ?_ h;have:execOp (λx=>(σ.get x).getD undef) (aR (.slice t x none none none) ty)=(do let v <-Instr.sliceAt t (.pointer (some a)) none none none;pure (.value v)):=by simp[execOp,aR,q]
  rw[this];refine Uq λQ g H A=>?_;simp only[Instr.sliceAt,Zg,Zw F,Instr.sureAddr,Instr.sliceBounds,Zj,Z4 G,I,C,aT p,qBI];exact A
 refine Vd (by simp[Op.operands,q,s]) ?_ h;have:execOp (λx=>(σ.get x).getD undef) (aR (.slice t x none (some z) none) ty)=(do let v <-Instr.sliceAt t (.pointer (some a)) none (some (.int k (hi:Int))) none;pure (.value v)):=by simp[execOp,aR,q,s]
 rw[this];refine Uq λQ g H A=>?_;simp only[Instr.sliceAt,Zg,Zw F,Instr.sureAddr,Instr.sliceBounds,Instr.sliceBound,asIntOf,Zj,iF u,Z4 G,I,C,aT p,qBI,qAD];exact A
def Zs1{C:TypeId}{q D:Nat}(N:P.toProgram.underlying sT=some (.slice E))(V:TI P.toProgram E 1 zv dI)(F:σ.get x=some (.slice (some ⟨r,0,none⟩) q D))(G:σ.get y=some w)(O:aF H w l)(M:l.length<=q)(W:q=cs.length)(hb:H r=some (.cells cs.toArray C (0,0),true))(B:P.still H.gh=false)
  (h:next (σ.set d (vi l.length)) (H.ins r (.cells (l.map vi++cs.drop l.length).toArray C))):(bE.raw (.call { callee:=.builtin .copy,args:=#[x,y],argTypes:=#[sT,SD] }) T).m P d next σ H:=by
 obtain⟨U,R,S,X,Y⟩:=V.ex;refine YS (s:=Builtin.copy_ #[sT,SD] T #[.slice (some ⟨r,0,none⟩) q D,w]) (by simp[Op.operands,Call.operands,F,G]) (by simp[execOp,aR,resolve,invoke,builtin,F,G]) ?_;obtain⟨A,c,rfl,L⟩:=O;have z:Nat.min l.length q=l.length:=qCr M;simp only[Builtin.copy_,qAH,qAV,qAT,Zg,Zw N,Builtin.lenOf,Zj,z,Z4 R,S];have p:∀(Q:Array Value->Bool->Hp->Prop),Q (l.map vi).toArray false H->bL P.toPQ (Builtin.firstCells 1 l.length (.slice A l.length c)) Q false H:=by
  intro Q J;by_cases I:l=[]
  ·subst I;cases A<;>simpa[Builtin.firstCells,Zj,loadCells,loadCellsFrom]using J
  obtain⟨a,rfl,u⟩:=L I;rw[US]at u;simp only[Builtin.firstCells];exact yS B u J (by simp)
 refine p _ ?_;refine LO _ _ (l.map vi) 0 0 cs H B hb (by simp[Value.cJ]) (by simp;omega) ?_;simpa[goInt]using h
end
def Us{H:Hp}{h:Obj}:(H.ins r o).ins r h=H.ins r h:=by
 refine Hp.ext' (λc=>?_) rfl;by_cases e:c=r
 ·subst e;rw[Hp.aG,Hp.aG]
 rw[Hp.aH _ _ e,Hp.aH _ _ e,Hp.aH _ _ e]
def VK{H:Hp}:aC (H.ins r (.cells cs.toArray E)) ⟨r,0,none⟩ cs:=⟨rfl,_,_,Hp.aG _ _ _,λj h=>by simp[Obj.mB]⟩
def Ys(l:List Int):N4:=.of λi=>l.getD i 0
def JG(G:Hp)(A:Hp->Prop)(H:Hp):Prop:=∃h F:Hp,H=h.join F/\h.Comp F/\aL G F/\A h
def JG.up{G:Hp}{A:Hp->Prop}{H:Hp}(q:Up A)(h:JG G A H):A H:=by obtain⟨s,F,rfl,m,_,p⟩:=h;exact q _ _ m p
def JG.inc{G:Hp}{A:Hp->Prop}{H:Hp}(h:JG G A H):aL G H:=by obtain⟨q,F,rfl,m,p,_⟩:=h;exact λb x hb=>Hp.bC m (p b x hb)
def JG.of{G:Hp}{A B:Hp->Prop}{H:Hp}(h:JG G A H)(z:∀m,A m->B m){p:Hp}(C:aL p G):JG p B H:=by obtain⟨m,F,rfl,q,s,u⟩:=h;exact⟨m,F,rfl,q,C.trans s,z _ u⟩
def JG.new{G:Hp}{A:Hp->Prop}{H:Hp}(h:JG G A H)(o:Obj)(B:H r=none):JG (G.ins r o) A (H.ins r o):=by
 obtain⟨s,F,rfl,p,u,z⟩:=h;obtain⟨c1,c2⟩:=Hp.eF.1 B;refine⟨s,F.ins r o,(Hp.iW c1).symm,⟨λb x y m q=>?_,p.gh⟩,λb x hb=>?_,z⟩
 ·by_cases e:b=r
  ·subst e;rw[c1]at m;simp at m
  rw[Hp.aH _ _ e]at q;exact p.mem b x y m q
 by_cases e:b=r
 ·subst e;rw[Hp.aG]at hb ⊢;exact hb
 rw[Hp.aH _ _ e]at hb ⊢;exact u b x hb
def JG.put{G:Hp}{A:Hp->Prop}{H:Hp}(h:JG G A H)(s:Obj)(D:G r=some (o,true)):JG (G.ins r s) A (H.ins r s):=by
 obtain⟨m,F,rfl,p,u,B⟩:=h;have c2:=u r _ D;have c1:m r=none:=by
  cases C:m r with
  | none=>rfl
  | some x=>have:=p.mem r x _ C c2;rw[this.1]at this;simp at this
 refine⟨m,F.ins r s,(Hp.iW c1).symm,⟨λb x y q z=>?_,p.gh⟩,λb x hb=>?_,B⟩
 ·by_cases e:b=r
  ·subst e;rw[c1]at q;simp at q
  rw[Hp.aH _ _ e]at z;exact p.mem b x y q z
 by_cases e:b=r
 ·subst e;rw[Hp.aG]at hb ⊢;exact hb
 rw[Hp.aH _ _ e]at hb ⊢;exact u b x hb
def JG.sub{G:Hp}{A:Hp->Prop}{H m:Hp}(h:JG G A H)(u:H.Sub m):JG G A m:=by
 classical
 obtain⟨q,F,rfl,B,D,I⟩:=h
 refine⟨q,⟨λb=>if F b=none then(if q b=none then m b else none)else F b,F.gh⟩,Hp.ext' (λb=>?_) ?_,⟨λb x y C p=>?_,B.gh⟩,λb x hb=>?_,I⟩
 ·show m b=_;simp only[Hp.bH];cases hc:q b with
  | some x=>exact u.mem b x (Hp.aW hc)
  | none=>
   cases s:F b with
   | none=>simp
   | some y=>simp;exact u.mem b y (by simp[Hp.bH,hc,s])
 ·rw[u.gh];rfl
 ·have p:(if F b=none then(if q b=none then m b else none)else F b)=some y:=p;rw[C]at p;cases s:F b with
  | none=>simp[s]at p
  | some z=>simp[s]at p;subst p;exact B.mem b x z C s
 ·show(if F b=none then(if q b=none then m b else none)else F b)=some x;rw[D b x hb];simp
def JG.call{P:aX}{y:Value}{args:Array Value}{G:Hp}{A:Hp->Prop}{B:Value->Hp->Prop}{H:Hp}(I:∀H,A H->ZV P y args H B)(h:JG G A H):ZV P y args H (λv p=>JG G (B v) p):=by obtain⟨q,F,rfl,s,u,z⟩:=h;refine((I q z).frame s).mono ?_;rintro v p ⟨m,rfl,C,D⟩;exact⟨m,F,rfl,C,u,D⟩
def ZgF{rest:List (List Value)}{I:Nat->Hp->Prop}(s:∀n,Up (I n)):Up (xD xs I rest):=by rintro H J u ⟨p,h,m,q⟩;exact⟨p,h,m,s p H J u q⟩
theorem Ux{H:Hp}{a:Addr}(h:aC H a cs){v:Value}(m:cs[j]? = some v):aC H (a.add j) [v]:=by
 obtain⟨q,o,p,s,u⟩:=h;have A:j<cs.length:=(List.getElem?_eq_some_iff.1 m).1;refine⟨P4 q _,o,p,by rw[II];exact s,λk z=>?_⟩;have:k=0:=by simpa using z
 subst this;rw[IJ,qCW,u j A,m];rfl
def t4:Yl Tryz.prog 4=some (1,some (vb false),1):=U
abbrev pt(r:Nat):Value:=.pointer (some ⟨r,0,none⟩)
def YL{G H:Hp}(p:aL G H)(h:H r=none):G r=none:=by
 cases m:G r with
 | none=>rfl
 | some x=>rw[p r x m]at h;simp at h
def FT{G h:Hp}(m:aL G h)(p:G r=none):aL G (h.ins r o):=λb x hb=>by rw[Hp.aH _ _ (by rintro rfl;rw[p]at hb;simp at hb)];exact m b x hb
def ZA{H:Hp}{p:Bool}(h:H r=some (.cells cs.toArray E,p)):aC H ⟨r,0,none⟩ cs:=⟨rfl,_,_,h,λj m=>by simp[Obj.mB]⟩
def Xt{h H p:Hp}{b:Option Nat}(s:aL h H)(q:∀r,b=some r->h r=none)(c:C7 H p b b'):aL h p:=
 λd y m=>c.keep d y (s d y m) (λe=>by rw[q d e]at m;simp at m)
def dD.BV[Enc α]{m H p:Hp}{v:Value}{l:List α}{b:Option Nat}(s:aL m H)(h:dD m H E v l b)(c:C7 H p b b'):∀r,b'=some r->m r=none:=by
 rcases c.new with rfl | ⟨r,rfl,q⟩
 ·exact h.fresh
 intro u e;obtain rfl:=iO e;exact YL s q
def dD.inc[Enc α]{m H H':Hp}{v:Value}{l:List α}{b:Option Nat}(h:dD m H E v l b)(q:aL H H'):dD m H' E v l b:=⟨h.own.sub λc y _ p=>q c y p,h.fresh⟩
section
variable{P:aX}{H:Hp}{d:Option Nat}{next:aM->Hp->Prop}{σ:aM}{x y:Operand}
def U7[Enc α]{G:Hp}{s:Value}{l l':List α}{b:Option Nat}(O:P.toProgram.underlying sT=some (.slice E))(F:P.toProgram.underlying SD=some (.slice E))(R:TI P.toProgram E (Enc.sz α) zv dI)(Q:zv.cells.size=Enc.sz α)(M:0<Enc.sz α)
  (I:aL G H) (u:dD G H E s l b) (W:aF H w l') (S:((Zb l').all Value.cJ)=true) (B:l.length+l'.length<=1000000000) (C:dI<=1000) (K:σ.get x=some s) (L:σ.get y=some w) (D:P.still H.gh=false)
  (h:∀z p b',aL G p->dD G p E z (l++l') b'->C7 H p b b'->next (σ.set d z) p):(bE.raw (.call { callee:=.builtin .append,args:=#[x,y],argTypes:=#[sT,SD] }) T).m P d next σ H:=by
 obtain⟨A,c,rfl,U⟩:=W;by_cases N:l'=[]
 ·subst N;refine QQ O F R Q M K L u.own (m:=0) (xs:=[]) (.inl ⟨rfl,A,c,rfl⟩) (by simp) rfl B C D λz p b' J q=>?_;exact h z p b' (Xt I u.fresh q) ⟨by simpa using J,u.BV I q⟩ q
 obtain⟨a,rfl,V⟩:=U N;refine QQ O F R Q M K L u.own (m:=l'.length) (xs:=Zb l') (.inr ⟨a,c,rfl,V⟩) (VH l') S B C D λz p b' J q=>?_;refine h z p b' (Xt I u.fresh q) ⟨?_,u.BV I q⟩ q;rw[IK,BY];exact J
end
def el(l:List Int)(i:Nat):Int:=l.getD i 0
def Uu(h:i<l.length):el l i=l[i]:=ZD h 0
def CE(x:Int)(j:Nat)(h:i<l.length):el (l.set i x) j=if j=i then x else el l j:=by
 unfold el;rw[qAa,qAa,qCD];by_cases e:j=i
 ·subst e;simp[h]
 rw[aT (qAF e),aT e]
structure AR(G H:Hp)(r:Nat)(l:List Int)(rest:List Value):Prop where
 keep:∀b x,b≠r->G b=some x->H b=some x
 at_:H r=some (.cells (Zb l++rest).toArray 3 (0,0),true)
def AR.of{H:Hp}(h:H r=some (.cells (Zb l++rest).toArray 3 (0,0),true)):AR H H r l rest:=⟨λ_ _ _ h=>h,h⟩
def AR.trans{G H p:Hp}{m:List Value}(h:AR G H r l rest)(q:AR H p r l' m):AR G p r l' m:=⟨λb x hb s=>q.keep b x hb (h.keep b x hb s),q.at_⟩
def AR.set{G H:Hp}(h:AR G H r l rest)(l':List Int)(m:List Value):AR G (H.ins r (.cells (Zb l'++m).toArray 3)) r l' m:=
 ⟨λb x hb p=>by rw[Hp.aH _ _ hb];exact h.keep b x hb p,Hp.aG _ _ _⟩
def AR.new{G H:Hp}{p:Nat}(h:AR G H r l rest)(m:H p=none):AR G (H.ins p o) r l rest:=
 ⟨λb x hb q=>(Yf m).mem _ _ (h.keep b x hb q),(Yf m).mem _ _ h.at_⟩
def AR.inc{m G H:Hp}(h:AR G H r l rest)(p:aL m G)(q:m r=none):aL m H:=
 λb x hb=>h.keep b x (λe=>by rw[e,q]at hb;simp at hb) (p b x hb)
theorem Zu8(l:List Int)(i:Nat)(h:i<l.length):(Zb l)[i]? = some (vi (el l i)):=by rw[US,qEd,qBE h,Uu h];rfl
def VS(l:List Int):(Zb l).length=l.length:=by rw[US,qAh]
def AR.cell{G H:Hp}(h:AR G H r l rest)(p:j<l.length)(e:off=j):aC H ⟨r,off,none⟩ [vi (el l j)]:=by
 subst e;refine⟨rfl,_,_,h.at_,λk q=>?_⟩;have m:k=0:=by simpa using q
 subst m;have:(Zb l++rest)[off]? = some (vi (el l off)):=by rw[qBf (by rw[VS];exact p),Zu8 l off p]
 simpa[Obj.mB]using this
theorem Vx(r o n:Nat):(⟨r,o,none⟩:Addr).add n=⟨r,o+n,none⟩:=by
 unfold Addr.add;split
 ·rename_i h;subst h;rfl
 rfl
def ZK(r k:Nat):(⟨r,0,none⟩:Addr).add (k * 1)=⟨r,k,none⟩:=by rw[Vx,qAE,Nat.mul_one]
def Zym(r i k:Nat):((⟨r,0,none⟩:Addr).add (i * 1)).add (k * 1)=⟨r,i+k,none⟩:=by rw[ZK,Vx,Nat.mul_one]
def AR.cA{G H:Hp}(h:AR G H r l rest)(m:i<l.length)(e:i=j:=by omega):aC H ((⟨r,0,none⟩:Addr).add (i * 1)) [vi (el l j)]:=
 ZK r i ▸ h.cell (off:=i) (j:=j) O e
def AR.cAA{G H:Hp}(h:AR G H r l rest)(m:i+k<l.length)(e:i+k=j:=by omega):aC H (((⟨r,0,none⟩:Addr).add (i * 1)).add (k * 1)) [vi (el l j)]:=
 Zym r i k ▸ h.cell (off:=i+k) (j:=j) O e
def Zox(l:List Int)(rest:List Value)(n:Int)(p:j<l.length):ZG (Zb l++rest) j [vi n]=Zb (l.set j n)++rest:=by
 unfold ZG;have h:j<=(Zb l).length:=by rw[VS];omega
 have m:j+1<=(Zb l).length:=by rw[VS];omega
 rw[qDq h,show([vi n]:List Value).length=1 from rfl,List.drop_append_of_le_length m,US,US,qEf,qCx,iF (by simpa using p)];simp
def Zvt(l:List Int)(rest:List Value)(h:k<=l.length):(Zb l++rest).take k++List.replicate (l.length-k) (vi 0)++(Zb l++rest).drop (k+(l.length-k))=Zb (l.take k++List.replicate (l.length-k) 0)++rest:=by rw[qDq (by rw[VS];exact h),show k+(l.length-k)=(Zb l).length by rw[VS];omega,List.drop_left,IK,US,US,US,List.map_take,List.map_replicate]
section
variable{P:aX}[Tz P][Loud P]{H:Hp}{d:Option Nat}{next:aM->Hp->Prop}{σ:aM}{x y:Operand}
def Zd{a:Addr}{p ln:Nat}{k:IntKind}{n:Int}(j:Nat)(q:σ.get x=some (.slice (some a) ln c))(s:σ.get y=some (.int k n))(e:n=(j:Int))(u:j<ln)(h:next (σ.set d (.pointer (some (a.add (j * p))))) H):(bE.bQ p x y).m P d next σ H:=by subst e;exact OD q s u h
def ZS{G:Hp}{a:Addr}{ty:Nat}{n:Int}(h:AR G H r l rest)(u:j<l.length)(e:a=⟨r,j,none⟩)(q:σ.get x=some (.pointer (some a)))(s:σ.get y=some (vi n))
  (z:∀p,AR G p r (l.set j n) rest->next (σ.set d undef) p):(bE.raw (.store 3 x y) ty).m P d next σ H:=by
 subst e;refine wF (cD t3) q s h.at_ rfl (by rw[BY,VS];omega) rfl (Loud.aV _) ?_;rw[show(vi n).cells.toList=[vi n]from rfl,Zox l rest n u];exact z _ (h.set _ _)
def Lv(n:Nat):(Builtin.zeroCells #[vi 0] n).toList=List.replicate n (vi 0):=by simp only[Builtin.zeroCells];refine qBl (by simp) λi h m=>?_;simp[Nat.mod_one]
def Zs3{G:Hp}{a:Addr}{T:Nat}(h:AR G H r l rest)(I:off<l.length)(e:a=⟨r,off,none⟩)(A:n=l.length-off)(u:σ.get x=some (.slice (some a) n cap))
  (B:∀q,AR G q r (l.take off++List.replicate (l.length-off) 0) rest->next (σ.set d undef) q):(bE.raw (.call { callee:=.builtin .clear,args:=#[x],argTypes:=#[26] }) T).m P d next σ H:=by
 subst e A;obtain⟨F,C,J,D,K⟩:=(cD (P:=P) t3).ex;refine YS (s:=Builtin.clear_ #[26] T #[.slice (some ⟨r,off,none⟩) (l.length-off) cap]) (by simp[Op.operands,Call.operands,u]) (by simp[execOp,aR,resolve,invoke,builtin,u]) ?_;have p:∃m,l.length-off=m+1:=⟨l.length-off-1,O⟩;obtain⟨m,z⟩:=p;rw[z];simp only[Builtin.clear_,qAH,qAV,Zg,Zw (bI (P:=P) dW),UC C D,Zj];refine LO _ _ _ off 0 (Zb l++rest) H (Loud.aV _) h.at_ ?_ ?_ ?_
 ·rw[show(vi 0).cells=#[vi 0]from rfl,Lv];simp[Value.cJ]
 ·rw[show(vi 0).cells=#[vi 0]from rfl,Lv];simp[VS];omega
 rw[show(vi 0).cells=#[vi 0]from rfl,Lv,<-z];simp only[qCW,qBj];rw[Zvt l rest O];exact B _ (h.set _ _)
end
def Z8(l:List Int):Nat->List Int
 | 0=>[]
 | n+1=>if n≠0/\el l n=el l (n-1)then Z8 l n else Z8 l n++[el l n]
def Oh(l:List Int):List Int:=Z8 l l.length
def KN(m:n≠0)(h:el l n=el l (n-1)):Z8 l (n+1)=Z8 l n:=by rw[Z8,iF ⟨m,h⟩]
def KO(h:¬ el l n=el l (n-1)):Z8 l (n+1)=Z8 l n++[el l n]:=by rw[Z8,aT (λm=>h m.2)]
theorem PT(l:List Int):Z8 l 1=[el l 0]:=by rw[Z8,aT (by simp)];rfl
def CB(h:n<l.length):l.take (n+1)=l.take n++[el l n]:=by rw[iN h,Uu h]
def ZoS(x:Int)(h:n<l.length):(l.set n x).take (n+1)=l.take n++[x]:=by rw[CB (by simpa using h),CE _ _ h,iF rfl,qDX (dO n)]
section
variable{P:aX}[Tz P][Loud P]{H:Hp}
theorem Zy5{I:Hp}{v:Value}{Q:Option Nat}(hi:aL I H)(L:dD I H 3 v l Q)(hl:l.length<=1000000) :
  LL.Zc P 88 #[v] H λw F=>aL I F/\∃U,dD I F 3 w (Oh l) U:=by
 refine aJ.m (bG c94) (args:=[v]) rfl ?_;unfold Pf;obtain⟨tZ,⟨rfl,h2,h3⟩ | ⟨r,cap,rest,h1,rfl,h3,h4,h5⟩⟩:=id L.own
 ·have:l=[]:=qAb h2;subst this;refine Y ?_;exact⟨hi,Q,L⟩
 have M:I r=none:=L.fresh r h1;rw[BY,VS]at h4;have h4':l.length+rest.length=cap * 1:=h4;refine OJ (λW=>?_) (λW=>?_)
 ·refine Y ?_;refine⟨hi,Q,?_⟩;have:Oh l=l:=by
   match l,W with
   | [],_=>rfl
   | [x],_=>rfl
   | x :: y :: t,h=>simp at h;omega
  rw[this];exact L
 have W:2<=l.length:=O;refine Y ?_;refine Zv (l.length-1) (λj F=>H=F/\Z8 l (j+1)=l.take (j+1)) (λj=>[(0,.slice (some ⟨r,0,none⟩) l.length cap),(3,vi ((j+1:Nat):Int))]) (λj=>[]) ⟨rfl,by rw[PT,CB O];rfl⟩ V trivial ?_;rintro j _ hj ⟨rfl,D⟩;have A:=AR.of h3;refine OJ (λJ=>?_) (λJ=>?_)
 ·have J:j+1<l.length:=O;refine Y ?_;refine OD rfl rfl J (Y ?_);refine Zh (OL _) rfl (A.cA J rfl) (Y ?_);refine Zd j rfl rfl O O (Y ?_);refine Zh (OL _) rfl (A.cA O rfl) ?_;refine OJ (λX=>?_) (λX=>?_)
  ·have K:¬ cap=j+1:=O;refine Y ?_;refine Ik (lo:=j+1) (bI dW) (cD t3) rfl rfl O ?_;rw[aT K];have C:Z8 l (j+2)=l.take (j+1):=by rw[KN O (by simpa using X),D]
   refine Y ?_;refine ZO (α:=List Int) (l.length-(j+1)-1) (λi c F=>AR H F r c rest/\c.length=l.length/\c.take (Z8 l (j+1+i+1)).length=Z8 l (j+1+i+1)/\(∀x,j+1+i<=x->el c x=el l x)/\(Z8 l (j+1+i+1)).length<=j+1+i/\1<=(Z8 l (j+1+i+1)).length)
    (λi c=>[(0,.slice (some ⟨r,0,none⟩) l.length cap),(3,vi ((Z8 l (j+1+i+1)).length:Nat)),(4,.slice (some ((⟨r,0,none⟩:Addr).add ((j+1) * 1))) (l.length-(j+1)) (cap-(j+1))),(5,vi ((i+1:Nat):Int))]) (λi c=>[]) l ?_ ⟨rfl,?_,rfl,rfl,trivial⟩ trivial ?_
   ·have e2:(Z8 l (j+1+0+1)).length=j+1:=by rw[show j+1+0+1=j+2 from rfl,C,qAj];omega
    exact⟨A,rfl,by rw[e2];exact C.symm,λ_ _=>rfl,O,O⟩
   ·show some (vi _)=some (vi _);rw[show j+1+0+1=j+2 from rfl,C,qAj,qCr O]
   rintro i c H2 S4 ⟨G,u,z,q,Rx,Rw⟩;generalize p:(Z8 l (j+1+i+1)).length=k at *;have Rq:l.length-(j+1)<=1000000:=O;refine OJ (λS=>?_) (λS=>?_)
   ·have S:i+1<l.length-(j+1):=O;refine Y ?_;refine OD rfl rfl S (Y ?_);refine Zh (OL _) rfl (G.cAA (j:=j+1+(i+1)) O rfl) (Y ?_);refine Zd i rfl rfl O O (Y ?_);refine Zh (OL _) rfl (G.cAA (j:=j+1+i) O rfl) ?_;rw[q _ O,q _ O];refine OJ (λZ=>?_) (λZ=>?_)
    ·refine Y ?_;refine OD rfl rfl S (Y ?_);refine Zh (OL _) rfl (G.cAA (j:=j+1+(i+1)) O rfl) ?_;rw[q _ O];refine Y ?_;refine OD rfl rfl (show k<l.length by omega) (Y ?_);refine ZS (j:=k) G O (ZK _ _) rfl rfl λH3 s=>?_;have B:Z8 l (j+1+(i+1)+1)=Z8 l (j+1+i+1)++[el l (j+1+(i+1))]:=KO (n:=j+1+(i+1)) Z;have R:(Z8 l (j+1+(i+1)+1)).length=k+1:=by rw[B,BY,p];rfl
     refine Y ?_;refine⟨(⟨i+1,O⟩,c.set k (el l (j+1+(i+1)))),bN O,⟨s,by simpa using u,?_,λx N=>?_,by rw[R];show k+1<=j+1+(i+1);omega,by rw[R];omega⟩,⟨rfl,?_,rfl,rfl,trivial⟩,trivial,rfl⟩
     ·rw[R,ZoS _ O,z,B]
     ·have N:j+1+(i+1)<=x:=N;rw[CE _ _ O,aT O];exact q x O
     show _=some (vi ((Z8 l (j+1+(i+1)+1)).length:Nat));rw[R];rfl
    have B:Z8 l (j+1+(i+1)+1)=Z8 l (j+1+i+1):=KN (n:=j+1+(i+1)) O Z;refine Y ?_;refine⟨(⟨i+1,O⟩,c),bN O,⟨G,u,?_,λx N=>q x (by have N:j+1+(i+1)<=x:=N;omega),by rw[B,p];show k<=j+1+(i+1);omega,by rw[B,p];omega⟩,⟨rfl,?_,rfl,rfl,trivial⟩,trivial,rfl⟩
    ·rw[B,p,z]
    show _=some (vi ((Z8 l (j+1+(i+1)+1)).length:Nat));rw[B,p];rfl
   have hm:j+1+i+1=l.length:=O;rw[hm]at z p;refine Y ?_;refine Ik (lo:=k) (bI dW) (cD t3) rfl rfl O ?_;rw[aT O];refine Y ?_;refine Zs3 G O (ZK _ _) (by rw[u]) rfl λH3 s=>Y ?_;refine IE (k:=.i64) (lo:=0) (hi:=k) (bI dW) (cD t3) rfl (.inl ⟨rfl,rfl⟩) ⟨_,rfl,rfl⟩ (qAI _) O (Y ?_);have hz:¬ cap=0:=O;refine⟨(s.inc hi M),some r,⟨⟨?_,.inr ⟨r,cap,List.replicate (c.length-k) (vi 0)++rest,rfl,?_,?_,?_,?_⟩⟩,λr' e=>by obtain rfl:=iO e;exact M⟩⟩
   ·rw[VS];show _=(Oh l).length * 1;omega
   ·rw[aT hz];show Value.slice (some ((⟨r,0,none⟩:Addr).add (0 * 1))) (k-0) (cap-0)=_;rw[ZK,qBI,qBI,<-p];rfl
   ·have h:=s.at_;rw[z,IK,show Zb (List.replicate (c.length-k) (0:Int))=List.replicate (c.length-k) (vi 0)by rw[US,List.map_replicate],qAW]at h;exact h
   ·rw[BY,BY,VS,qBj,u];show(Z8 l l.length).length+_=cap * 1;rw[p];omega
   show(Z8 l l.length).length<=cap;omega
  refine Y ?_;refine⟨⟨j+1,O⟩,bN O,⟨rfl,?_⟩,V,trivial,rfl⟩;rw[KO (by simpa using X),D,CB J]
 have:j+1=l.length:=O;refine Y ?_;refine⟨hi,Q,?_⟩;have:Oh l=l:=by rw[Oh,<-this,D,this,IF]
 rw[this];exact L
end
def dS(l:List Int)(i j:Nat):List Int:=(l.set i (el l j)).set j (el l i)
def Q7(l:List Int)(i j:Nat):(dS l i j).length=l.length:=by simp[dS]
def Yh(k:Nat)(h:i<l.length)(m:j<l.length):el (dS l i j) k=if k=j then el l i else if k=i then el l j else el l k:=by unfold dS;rw[CE _ _ (by simpa using m),CE _ _ h]
inductive Rg (a b:Nat):List Int->List Int->Prop
 | refl (l:List Int):Rg a b l l
 | step {l l':List Int} (i j:Nat):Rg a b l l'->a<=i->i<b->a<=j->j<b->Rg a b l (dS l' i j)
def Rg.len(h:Rg a b l l'):l'.length=l.length:=by
 induction h with
 | refl=>rfl
 | step i j _ _ _ _ _ ih=>rw[Q7,ih]
def Rg.trans{m:List Int}(h:Rg a b l l')(p:Rg a b l' m):Rg a b l m:=by
 induction p with
 | refl=>exact h
 | step i j _ q s u z ih=>exact .step i j ih q s u z
def Rg.mono{m b':Nat}(h:Rg a b l l')(z:m<=a)(hb:b<=b'):Rg m b' l l':=by
 induction h with
 | refl=>exact .refl _
 | step i j _ p q s u ih=>exact .step i j ih O O O O
def Rg.out(h:Rg a b l l')(hb:b<=l.length)(z:k<a\/b<=k):el l' k=el l k:=by
 induction h with
 | refl=>rfl
 | step i j m p q s u ih=>
  have:=m.len;rw[Yh _ O O,aT O,aT O,ih]
def Rg.all(h:Rg a b l l')(hb:b<=l.length){p:Int->Prop}(C:∀k,a<=k->k<b->p (el l k)):∀k,a<=k->k<b->p (el l' k):=by
 induction h with
 | refl=>exact C
 | step i j s u z A B ih=>
  intro k m q;have:=s.len;rw[Yh _ O O];split
  ·exact ih i u z
  split
  ·exact ih j A B
  exact ih k m q
def Zoj(h:i<l.length)(m:j<l.length):(dS l i j).Perm l:=by unfold dS;rw[Uu h,Uu m];exact List.set_set_perm h m
def Rg.perm(h:Rg a b l l')(hb:b<=l.length):l'.Perm l:=by
 induction h with
 | refl=>exact .refl _
 | step i j m p q s u ih=>
  have:=m.len;exact(Zoj O O).trans ih
def So(a b:Nat)(l:List Int):Prop:=∀i j,a<=i->i<=j->j<b->el l i<=el l j
def Un(l:List Int)(h:b<=a+1):So a b l:=λi j m p q=>by have:i=j:=O;subst this;exact qAx _
def V5(h:∀i,a<=i->i+1<b->el l i<=el l (i+1)):So a b l:=by
 intro i j p m q;obtain⟨d,rfl⟩:=Nat.exists_eq_add_of_le m;clear m;induction d with
 | zero=>exact qAx _
 | succ d ih=>exact qCz (ih O) (h (i+d) O O)
section
variable{P:aX}[Tz P][Loud P]{H:Hp}
def Kj(n:Int):LL.Zc P 215 #[vi n] H λv h=>H=h/\v=vb false:=by refine aJ.m (bG ZvN) (args:=[vi n]) rfl ?_;unfold Zja;refine Y ?_;exact⟨rfl,by simp[Y5]⟩
def VM(m n:Int):LL.Zc P 177 #[vi m,vi n] H λv h=>H=h/\v=vb (decide (m<n)):=by refine aJ.m (bG Zv0) (args:=[vi m,vi n]) rfl ?_;unfold Zjn;refine Y ?_;refine ZW (vs:=[vi m]) rfl (Kj _) ?_;rintro v _ ⟨rfl,rfl⟩;refine Y ?_;exact⟨rfl,rfl⟩
def Wd(P:aX)(f:Nat)(H:Hp)(r cap:Nat)(l:List Int)(rest:List Value)(a b:Nat)(h:List Value)(Q:Value->List Int->Prop):Prop:=
 LL.Zc P f (.slice (some ⟨r,0,none⟩) l.length cap :: vi a :: vi b :: h).toArray H λv m=>∃l',AR H m r l' rest/\Rg a b l l'/\Q v l'
def Zum(hA:H r=some (.cells (Zb l++rest).toArray 3 (0,0),true))(CP:a<=b)(hb:b<=l.length)(hl:l.length<=1000000) :
  Wd P 171 H r cap l rest a b [] λ_ l'=>So a b l':=by
 refine aJ.m (bG Zv6) (args:=[.slice (some ⟨r,0,none⟩) l.length cap,vi a,vi b]) rfl ?_;unfold Zjt;refine Y ?_;refine ZO (α:=List Int) (b-(a+1)) (λj c Q=>AR H Q r c rest/\Rg a b l c/\So a (a+1+j) c) (λj c=>[(0,.slice (some ⟨r,0,none⟩) l.length cap),(1,vi a),(2,vi b),(6,vi ((a+1+j:Nat):Int))]) (λj c=>[]) l ⟨AR.of hA,.refl l,Un l O⟩ V trivial ?_;rintro i c H1 hi ⟨Z,X,so⟩;have jQ:=X.len;refine OJ (λg1=>?_) (λg1=>?_)
 ·have g1:a+1+i<b:=O;refine Y ?_;refine ZO (α:=List Int) (i+1) (λk h Q=>AR H Q r h rest/\Rg a b l h/\(∀x y,a<=x->x<=y->y<=a+1+i->x≠a+1+i-k->y≠a+1+i-k->el h x<=el h y)/\(∀y,a+1+i-k<y->y<=a+1+i->el h (a+1+i-k)<=el h y))
   (λk h=>[(0,.slice (some ⟨r,0,none⟩) l.length cap),(1,vi a),(2,vi b),(6,vi ((a+1+i:Nat):Int)),(7,vi ((a+1+i-k:Nat):Int))]) (λk h=>[]) c ⟨Z,X,λx y q u M U W=>so x y q u O,λy q u=>O⟩ V trivial ?_
  rintro k h H2 hk ⟨p,C,s,B⟩;have D9:=C.len;have Rz:a+1+i-k<l.length:=O;obtain⟨j,hj⟩:∃j,a+1+i-k=j:=⟨_,rfl⟩;rw[hj]at s B ⊢;refine OJ (λN=>?_) (λN=>?_)
  ·have N:a<j:=O;refine Y ?_;refine Zd j rfl rfl rfl O (Y ?_);refine Zh (OL _) rfl (p.cA O rfl) (Y ?_);refine Zd (j-1) rfl rfl O O (Y ?_);refine Zh (OL _) rfl (p.cA O rfl) (Y ?_);refine Za [vi (el h j),vi (el h (j-1))] (VM _ _) ?_;rintro v _ ⟨rfl,rfl⟩;refine OJ (λL=>?_) (λL=>?_)
   ·refine Y ?_;refine Zd (j-1) rfl rfl O O (Y ?_);refine Zh (Loud.aV _) rfl (AR.cA p O rfl) (Y ?_);refine Zd j rfl rfl O O (Y ?_);refine Zh (Loud.aV _) rfl (AR.cA p O rfl) (Y ?_);refine Zd j rfl rfl O O (Y ?_);refine ZS p O (ZK _ _) rfl rfl λHW R=>?_;refine Zp Loud.aV (Y ?_);refine Zd (j-1) rfl rfl O O (Y ?_);refine ZS R (by rw[qAg];omega) (ZK _ _) rfl rfl λH4 F=>Y ?_;have S:(h.set j (el h (j-1))).set (j-1) (el h j)=dS h j (j-1):=rfl;rw[S]at F;have I:∀x,el (dS h j (j-1)) x=if x=j-1 then el h j else if x=j then el h (j-1)else el h x:=λx=>Yh x O O
    have z:∀x,x≠j-1->el (dS h j (j-1)) x=if x=j then el h (j-1)else el h x:=λx D=>by rw[I,aT D]
    have J:el (dS h j (j-1)) (j-1)=el h j:=by rw[I,iF rfl]
    have K:a+1+i-(k+1)=j-1:=O;refine⟨(⟨k+1,O⟩,dS h j (j-1)),bN O,⟨F,.step _ _ C O O O O,?_,?_⟩,⟨rfl,rfl,rfl,rfl,?_,trivial⟩,trivial,rfl⟩
    ·show ∀x y,a<=x->x<=y->y<=a+1+i->x≠a+1+i-(k+1)->y≠a+1+i-(k+1)->_;intro x y q u M U W;rw[K]at U W;rw[z x U,z y W];by_cases D:x=j
     ·rw[iF D];by_cases A:y=j
      ·rw[iF A];exact qAx _
      rw[aT A];exact s _ _ O O M O A
     rw[aT D];by_cases A:y=j
     ·rw[iF A];exact s _ _ q O O D O
     rw[aT A];exact s _ _ q u M D A
    ·show ∀y,a+1+i-(k+1)<y->y<=a+1+i->el (dS h j (j-1)) (a+1+i-(k+1))<=_;intro y q u;rw[K]at q ⊢;rw[J,z y O];by_cases A:y=j
     ·rw[iF A];omega
     rw[aT A];exact B _ O u
    show some (vi ((j:Int)-1))=some (vi ((a+1+i-(k+1):Nat):Int));rw[show(a+1+i-(k+1):Nat)=j-1 by omega,show((j-1:Nat):Int)=(j:Int)-1 by omega]
   refine Y ?_;refine⟨(⟨i+1,O⟩,h),bN O,⟨p,C,?_⟩,V,trivial,rfl⟩;show So a (a+1+(i+1)) h;refine V5 λx q u=>?_;by_cases G:x=j
   ·subst G;exact B _ O O
   by_cases e2:x+1=j
   ·subst e2;rw[qAU]at L;omega
   exact s _ _ q O O G e2
  have N:j=a:=O;subst N;refine Y ?_;refine⟨(⟨i+1,O⟩,h),bN O,⟨p,C,?_⟩,V,trivial,rfl⟩;refine V5 λx q u=>?_;have u:x+1<j+1+(i+1):=u;by_cases G:x=j
  ·subst G;exact B _ O O
  exact s _ _ q O O G O
 refine Y ?_;refine⟨c,Z,X,?_⟩;intro x y q u M;exact so x y q u O
end
