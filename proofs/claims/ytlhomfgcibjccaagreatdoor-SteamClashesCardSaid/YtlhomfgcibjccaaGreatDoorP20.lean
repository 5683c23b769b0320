import Derived.Test.YtlhomfgcibjccaaGreatDoorP19
set_option linter.all false
set_option maxHeartbeats 1000000
open Go Go.LL
namespace Go.Proofs
variable{r a n c b off gR k j i cap:Nat}{o:Obj}{cs rest:List Value}{α:Type}{xs:List (List Value)}{t e sT t6 E T:TypeId}{fv zv w:Value}{f:Int->Bool}{l l':List Int}{ys:Array Value}{b':Option Nat}
def bO(H H':Hp):Prop:=∀b x,H b=some x->H' b=some x
theorem bO.refl(H:Hp):bO H H:=λ_ _ h=>h
theorem bO.trans{H H' nA:Hp}(h:bO H H')(h':bO H' nA):bO H nA:=λb x hx=>h' b x (h b x hx)
theorem _root_.Go.LL.Hp.Sub.bA{H H':Hp}(h:H.Sub H'):bO H H':=h.mem
theorem Zt{H:Hp}(hr:H r=none):bO H (H.ins r o):=(Yg hr).mem
theorem Ue(H J:Hp):bO H (H.join J):=λ_ _ h=>Hp.aK h
theorem _root_.Go.LL.aD.bA{H H':Hp}{a:Addr}(h:aD H a cs)(hs:bO H H'):aD H' a cs:=by obtain⟨h1,o,p,h2,h3⟩:=h;exact⟨h1,o,p,hs _ _ h2,h3⟩
theorem aV.bA[Enc α]{H H':Hp}{v:Value}{l:List α}(h:aV H v l)(hs:bO H H'):aV H' v l:=by obtain⟨A,c,h1,h2⟩:=h;refine⟨A,c,h1,λhn=>?_⟩;obtain⟨a,h3,h4⟩:=h2 hn;exact⟨a,h3,h4.bA hs⟩
def wA(xs:List (List Value))(I:Nat->Hp->Prop)(rest:List (List Value))(H:Hp):Prop:=∃p,p+rest.length=xs.length/\xs.drop p=rest/\I p H
theorem wA.start{I:Nat->Hp->Prop}{H:Hp}(h:I 0 H):wA xs I xs H:=⟨0,by simp,rfl,h⟩
theorem wA.stop{I:Nat->Hp->Prop}{H:Hp}(h:wA xs I [] H):I xs.length H:=by obtain⟨p,h1,_,h3⟩:=h;simp at h1;rw[<-h1];exact h3
theorem wA.call{P:bF}{y:Value}{I:Nat->Hp->Prop}{S:Hp->Prop}{x:List Value}{r:List (List Value)}{H:Hp}
  (hy:∀n (hn:n<xs.length) H,I n H->ZX P y (xs[n]).toArray H (λv H'=>(v=.bool true/\I (n+1) H')\/(v=.bool false/\S H'))) (h:wA xs I (x :: r) H) :
  ZX P y x.toArray H (λv H'=>(v=.bool true/\wA xs I r H')\/(v=.bool false/\S H')):=by
 obtain⟨p,h1,h2,h3⟩:=h;have hp:p<xs.length:=by simp at h1;omega
 have e:=qCt hp;rw[h2]at e;have e1:x=xs[p]:=by injection e
 have e2:xs.drop (p+1)=r:=by injection e with _ e;exact e.symm
 rw[e1];refine(hy p hp H h3).mono ?_;rintro v H' (⟨rfl,h⟩ | ⟨rfl,h⟩)
 ·exact .inl ⟨rfl,p+1,by simp at h1;omega,e2,h⟩
 exact .inr ⟨rfl,h⟩
theorem SW:Tryz.prog.underlying 105=some (.array 4 3):=U
theorem Zoo:Ym Tryz.prog 105=some (4,some (.agg #[vi 0,vi 0,vi 0,vi 0]),32):=U
theorem RH{α:Type}[Enc α](h:∀a:α,((Enc.enc a).all Value.dZ)=true):∀l:List α,((Zb l).all Value.dZ)=true
 | []=>rfl
 | a :: l=>by have:=RH h l;simp only[Zb,qAL,List.all_append]at this ⊢;rw[h,this];rfl
theorem Lt{P:bF}{d:Option Nat}{next:aN->Hp->Prop}{σ:aN}{H:Hp}{x:Operand}{t2 ty:TypeId}{A:Option Addr}(hu:P.toProgram.underlying t=some (.slice e))(e1:σ.get x=some (.slice A n c))(h:next (σ.set d (vb A.isNone)) H) :
  (bC.dA (.binOp .eql t x (.const (.slice none 0 0)) t2) ty).m P d next σ H:=by
 have e0:∀v,σ.get (.const v)=some v:=λv=>rfl;refine Y5 (by simp[Op.operands,e1,e0]) ?_ h;have:execOp (λx=>(σ.get x).getD undef) (aP (.binOp .eql t x (.const (.slice none 0 0)) t2) ty)=(do let v <-(do eqGuard .eql t x (.const (.slice none 0 0)) (.slice A n c) (.slice none 0 0);binOp .eql t (.slice A n c) (.slice none 0 0));pure (.value v)):=by simp[execOp,aP,e1,e0]
 rw[this];refine Uo λQ g H hq=>?_;simp only[eqGuard,Zh,Zj];have key:∀d,cD P.toPQ (Op.equalIn (d+1) t (.slice A n c) (.slice none 0 0)) (λb g H=>Q (vb b) g H) g H:=by intro d;simp only[Op.equalIn,Zh,Zy hu];cases A<;>exact hq
 have:=key 9999;cases A<;>exact(Zh.2 this)
section
variable{P:bF}[Tz P]{H:Hp}
theorem Zy8{v:Value}(hf:∀c∈l,ZX P fv #[vi c] H λv H'=>H=H'/\v=vb (f c))(hs:aV H v l)(hl:l.length<=1000000)(bB:P.still H.gh=false) :
  LL.Zc P 217 #[v,fv] H λv H'=>H=H'/\∃r:Int,v=vi r/\(0<=r↔l.any f=true):=by
 refine aO.m (cF Zv9) (args:=[v,fv]) rfl ?_;unfold Zjs;refine Y ?_;refine YD hs rfl (Y ?_);refine Zw l.length (λj H'=>H=H'/\(l.take j).any f=false) (λj=>[(0,v),(1,fv),(7,vi l.length),(8,vi j)]) (λj=>[]) ⟨rfl,rfl⟩ V trivial ?_;rintro j _ hj ⟨rfl,lH⟩;refine Y ?_;refine OI (λh1=>?_) (λh1=>?_)
 ·have cH:j<l.length:=O;refine Y ?_;refine Zx hs rfl rfl rfl (i:=j) cH λa ha=>Y ?_;refine Zg bB rfl ha (Y ?_);refine ZN rfl rfl (hf l[j] (IN cH)) ?_;rintro w _ ⟨rfl,rfl⟩;refine Y ?_;refine OI (λh2=>?_) (λh2=>?_)
  ·refine Y ?_;exact⟨rfl,j,rfl,by simp only[qCo,true_iff];rw[qBL];exact⟨l[j],IN cH,h2⟩⟩
  refine Y ?_;refine⟨⟨j+1,O⟩,dX O,⟨rfl,?_⟩,V,trivial,rfl⟩;show(l.take (j+1)).any f=false;rw[qAd cH,qCj,lH];simp[h2]
 have:j=l.length:=O;subst this;rw[qAw]at lH;refine Y ?_;exact⟨rfl,-1,rfl,by simp[lH]⟩
theorem Zzl{v:Value}(hf:∀c∈l,ZX P fv #[vi c] H λv H'=>H=H'/\v=vb (f c))(hs:aV H v l)(hl:l.length<=1000000)(bB:P.still H.gh=false) :
  LL.Zc P 166 #[v,fv] H λv H'=>H=H'/\v=vb (l.any f):=by
 refine aO.m (cF Zwo) (args:=[v,fv]) rfl ?_;unfold ZjH;refine Y ?_;refine Za (vs:=[v,fv]) rfl (Zy8 hf hs hl bB) ?_;rintro w _ ⟨rfl,r,rfl,hr⟩;refine Y ?_;refine⟨rfl,?_⟩;show vb (decide (0<=r))=vb _;congr 1;rw[qCk,qAK];exact hr
theorem ZnM{v:Value}(hs:aV H v l)(hl:l.length<=1000000)(bB:P.still H.gh=false) :
  LL.Zc P 157 #[v] H λv' H'=>H.Sub H'/\((l=[]/\v'=.slice none 0 0)\/∃b,fZ H H' 3 v' l b):=by
 obtain⟨A,c,rfl,hh⟩:=hs;refine aO.m (cF Zwn) (args:=[.slice A l.length c]) rfl ?_;unfold ZjG;refine Y ?_;refine Lt (dC oO) rfl (Y ?_);refine OI (λh1=>?_) (λh1=>?_)
 ·refine Y ?_;refine⟨.refl H,.inl ⟨?_,rfl⟩⟩;refine oR λhn=>?_;obtain⟨a,rfl,_⟩:=hh hn;simp at h1
 refine Y ?_;refine RF (dC oO) (eI t3) bB λr hr=>Y ?_;have AW:P.still (H.ins r (.cells #[] 3)).gh=false:=bB;refine XP (l:=([]:List Int)) (l':=l) (dC oO) (dC oO) (eI t3) rfl (by decide) (Yg hr) (H0:=H) (b:=some r) ⟨X2,λq e=>by obtain rfl:=dO e;exact hr⟩ ⟨A,c,rfl,λhn=>by obtain⟨a,e1,e2⟩:=hh hn;exact⟨a,e1,e2.sub (Yg hr)⟩⟩ (ZuA l) (by simp;omega) O rfl rfl AW λv' H' b' g1 g2 g3=>Y ?_;exact⟨g1,.inr ⟨b',by rw[qAx]at g2;exact g2⟩⟩
end
def DZ(p:Program)(t:TypeId):Option (List (String×TypeId×Nat)×Bool):=match p.underlying t with | some (.struct fs)=>some (fs.toList.map (λf=>(f.name,f.type,f.offset)),p.stoodInHeld t) | _=>none
theorem Zhe{p:Program}{n1 n2:String}{t1 t2 o1 o2:Nat}{b:Bool}(h:DZ p t=some ([(n1,t1,o1),(n2,t2,o2)],b)):∃f1 f2:Field,p.underlying t=some (.struct #[f1,f2])/\(f1.name=n1/\f1.type=t1/\f1.offset=o1)/\(f2.name=n2/\f2.type=t2/\f2.offset=o2)/\p.stoodInHeld t=b:=by
 unfold DZ at h;split at h
 ·rename_i fs hu;obtain⟨fs⟩:=fs;simp only[iF,qAG]at h;obtain⟨h,h2⟩:=h;match fs,h with
  | [f1,f2],h=>
   simp only[qBo,qDb,qBp,qAG]at h;exact⟨f1,f2,hu,h.1,h.2.1,h2⟩
 simp at h
theorem Rr:DZ Tryz.prog 36=some ([("Low",3,0),("High",3,1)],false):=U
theorem tX:Tryz.prog.underlying 3=some (.int .i64):=U
theorem Rl:Tryz.prog.underlying 4=some .bool:=U
section
variable{P:bF}[Tz P]{H:Hp}{g:Bool}{d:Nat}
theorem Vn{cs:Array Value}{v:Value}(h:cs[off]? = some v)(Q:Value->Bool->Hp->Prop):cD P.toPQ (part 3 cs off) Q g H↔Q v g H:=by simp only[part,Zh,OT (E6 (P:=P) a3),iN,qAk,h,Zj]
theorem ZsW{t:Nat}{cs:Array Value}(h:Ye Tryz.prog t=some (some n))(Q:Value->Bool->Hp->Prop):cD P.toPQ (part t cs off) Q g H↔Q (.agg (cs.extract off (off+n))) g H:=by obtain⟨i,h1,h2,h3⟩:=LD (E6 (P:=P) h);simp only[part,Zh,h3,qAM,Z6 h1,h2,Zj]
theorem WO{a b:Int}(Q:Bool->Bool->Hp->Prop):cD P.toPQ (Op.equalIn (d+1) 3 (vi a) (vi b)) Q g H↔Q (decide (a=b)) g H:=by
 simp only[Op.equalIn,Zh,Zy (dC (P:=P) tX),qAM,Zj];have:(a == b)=decide (a=b):=by rw[qCk];simp
 rw[this]
theorem Xa(hs:DZ Tryz.prog t=some ([("Before",3,0),("By",3,1)],false)\/DZ Tryz.prog t=some ([("Low",3,0),("High",3,1)],false)){a b c e:Int}(Q:Bool->Bool->Hp->Prop)(hq:Q (decide (a=c/\b=e)) g H):cD P.toPQ (Op.equalIn (d+1+1) t (.agg #[vi a,vi b]) (.agg #[vi c,vi e])) Q g H:=by
 have p1:∀(x y:Int) (Q:Value->Bool->Hp->Prop) g H,cD P.toPQ (part 3 #[vi x,vi y] 0) Q g H↔Q (vi x) g H:=λx y Q g H=>Vn rfl Q;have p2:∀(x y:Int) (Q:Value->Bool->Hp->Prop) g H,cD P.toPQ (part 3 #[vi x,vi y] 1) Q g H↔Q (vi y) g H:=λx y Q g H=>Vn rfl Q;rcases hs with hs | hs
 all_goals
  obtain⟨f1,f2,hu,⟨n1,t1,o1⟩,⟨n2,t2,o2⟩,hs⟩:=Zhe (p:=P.toProgram) (by rw[Tz.prog (P:=P)];exact hs)
  rw[Op.equalIn]
  simp only[Zh,Zy hu,VZ,hs,iN,qAk,Zj]
  simp only[n1,n2,t1,t2,o1,o2,Zh,qCS,qBT,List.forIn_nil]
  by_cases h1:a=c<;>by_cases h2:b=e<;>simp[p1,p2,WO,Zh,Zj,h1,h2]at hq ⊢<;>exact hq
def J8(a b:N4):Bool:=decide (a.a=b.a/\a.b=b.b/\a.c=b.c/\a.d=b.d)
theorem Zvl{a b:N4}(Q:Bool->Bool->Hp->Prop)(hq:Q (J8 a b) g H):cD P.toPQ (Op.equalIn (d+1+1) 105 (Zv a) (Zv b)) Q g H:=by have p1:∀(x y z u:Int) (Q:Value->Bool->Hp->Prop) g H,cD P.toPQ (part 3 #[vi x,vi y,vi z,vi u] 0) Q g H↔Q (vi x) g H:=λx y z u Q g H=>Vn rfl Q;have p2:∀(x y z u:Int) (Q:Value->Bool->Hp->Prop) g H,cD P.toPQ (part 3 #[vi x,vi y,vi z,vi u] 1) Q g H↔Q (vi y) g H:=λx y z u Q g H=>Vn rfl Q;have p3:∀(x y z u:Int) (Q:Value->Bool->Hp->Prop) g H,cD P.toPQ (part 3 #[vi x,vi y,vi z,vi u] 2) Q g H↔Q (vi z) g H:=λx y z u Q g H=>Vn rfl Q;have p4:∀(x y z u:Int) (Q:Value->Bool->Hp->Prop) g H,cD P.toPQ (part 3 #[vi x,vi y,vi z,vi u] 3) Q g H↔Q (vi u) g H:=λx y z u Q g H=>Vn rfl Q;obtain⟨p9,i1,i2,i3,i4⟩:=(eI (P:=P) t3).ex;rw[Op.equalIn];simp only[Zv,Zh,Zy (dC (P:=P) SW),Z6 i1,i2,Zj];unfold J8 at hq;have hr:List.range' 0 4=[0,1,2,3]:=rfl;simp only[qBG,Std.Legacy.Range.size,qBg,qBb,Nat.div_one,hr,qBT,List.forIn_nil,Zh];by_cases h1:a.a=b.a<;>by_cases h2:a.b=b.b<;>by_cases h3:a.c=b.c<;>by_cases h4:a.d=b.d<;>simp[p1,p2,p3,p4,WO,Zh,Zj,h1,h2,h3,h4]at hq ⊢<;>exact hq
end
theorem Zh5{G:Prop} (h:G:=by
  rw[this];refine Uo λQ g H hq=>?_;have C4:P.toProgram.eqGuardType P.toProgram.depth t=false:=by rw[Tz.prog (P:=P)];exact hg
  rw[Zh];unfold eqGuard;simp only[Zh,Zj,qCU,iN,qAk];rw[VZ,VZ,C4];simp only[qCu,qAM,Zj];exact Zh.2 (hE _ _ _ hq)):G:=h
def RQ(p:Program)(t:TypeId):Bool:=p.eqGuardType p.depth t
theorem Wy:RQ Tryz.prog 36=false:=U
section
variable{P:bF}[Tz P]{H:Hp}{d:Option Nat}{next:aN->Hp->Prop}{σ:aN}{x y:Operand}{ty t2:TypeId}{v:Value}
theorem ZiZ{xs:Array Value}{b:Bool}(hg:RQ Tryz.prog t=false)(hE:∀(Q:Bool->Bool->Hp->Prop) (g:Bool) (H:Hp),Q b g H->cD P.toPQ (Op.equalIn (9998+1+1) t (.agg xs) (.agg ys)) Q g H)(e1:σ.get x=some (.agg xs))(e2:σ.get y=some (.agg ys))(h:next (σ.set d (vb b)) H) :
  (bC.dA (.binOp .eql t x y t2) ty).m P d next σ H:=by
 refine Y5 (by simp[Op.operands,e1,e2]) ?_ h;have:execOp (λx=>(σ.get x).getD undef) (aP (.binOp .eql t x y t2) ty)=(do let v <-(do eqGuard .eql t x y (.agg xs) (.agg ys);binOp .eql t (.agg xs) (.agg ys));pure (.value v)):=by simp[execOp,aP,e1,e2]
 exact Zh5
theorem ZiG{xs:Array Value}{b:Bool}(hg:RQ Tryz.prog t=false)(hE:∀(Q:Bool->Bool->Hp->Prop) (g:Bool) (H:Hp),Q b g H->cD P.toPQ (Op.equalIn (9998+1+1) t (.agg xs) (.agg ys)) Q g H)(e1:σ.get x=some (.agg xs))(e2:σ.get y=some (.agg ys))(h:next (σ.set d (vb !b)) H) :
  (bC.dA (.binOp .neq t x y t2) ty).m P d next σ H:=by
 refine Y5 (by simp[Op.operands,e1,e2]) ?_ h;have:execOp (λx=>(σ.get x).getD undef) (aP (.binOp .neq t x y t2) ty)=(do let v <-(do eqGuard .neq t x y (.agg xs) (.agg ys);binOp .neq t (.agg xs) (.agg ys));pure (.value v)):=by simp[execOp,aP,e1,e2]
 exact Zh5
theorem Zs7{len sz hi:Nat}{a:Addr}{k:IntKind}{hx:Option Operand}(hu:P.toProgram.underlying t=some (.array len e))(ti:TI P.toProgram e sz zv gR)(dJ:0<len)(e1:σ.get x=some (.pointer (some a)))(e3:(hx=none/\hi=len)\/∃z,hx=some z/\σ.get z=some (.int k (hi:Int)))(hhi:hi<=len)
  (h:next (σ.set d (.slice (some a) hi len)) H):(bC.dA (.slice t x none hx none) ty).m P d next σ H:=by
 obtain⟨p9,i1,i2,i3,i4⟩:=ti.ex;have rL:(0:Int)<=(hi:Int)/\(hi:Int)<=(len:Nat):=⟨O,O⟩;have ha:a.add (0 * sz)=a:=by rw[qCm];rfl
 have dG:¬ len=0:=O;rcases e3 with⟨rfl,rfl⟩ | ⟨z,rfl,e3⟩
 ·refine Y5 (by simp[Op.operands,e1]) ?_ h;have:execOp (λx=>(σ.get x).getD undef) (aP (.slice t x none none none) ty)=(do let v <-Instr.sliceAt t (.pointer (some a)) none none none;pure (.value v)):=by simp[execOp,aP,e1]
  rw[this];refine Uo λQ g H hq=>?_;simp only[Instr.sliceAt,Zh,Zy hu,Instr.sureAddr,Instr.sliceBounds,Zj,Z6 i1,i2,ha,bY dG,qBg];exact hq
 refine Y5 (by simp[Op.operands,e1,e3]) ?_ h;have:execOp (λx=>(σ.get x).getD undef) (aP (.slice t x none (some z) none) ty)=(do let v <-Instr.sliceAt t (.pointer (some a)) none (some (.int k (hi:Int))) none;pure (.value v)):=by simp[execOp,aP,e1,e3]
 rw[this];refine Uo λQ g H hq=>?_;simp only[Instr.sliceAt,Zh,Zy hu,Instr.sureAddr,Instr.sliceBounds,Instr.sliceBound,asIntOf,Zj,iO rL,Z6 i1,i2,ha,bY dG,qBg,qAA];exact hq
theorem Zti{E2:TypeId}{dl dc:Nat}(hu:P.toProgram.underlying sT=some (.slice E))(ti:TI P.toProgram E 1 zv gR)(e1:σ.get x=some (.slice (some ⟨r,0,none⟩) dl dc))(e2:σ.get y=some w)(hw:aV H w l)(hl:l.length<=dl)(hc:dl=cs.length)(hb:H r=some (.cells cs.toArray E2 (0,0),true))(bB:P.still H.gh=false)
  (h:next (σ.set d (vi l.length)) (H.ins r (.cells (l.map vi++cs.drop l.length).toArray E2))):(bC.raw (.call { callee:=.builtin .copy,args:=#[x,y],argTypes:=#[sT,t6] }) T).m P d next σ H:=by
 obtain⟨p9,i1,i2,i3,i4⟩:=ti.ex;refine YS (s:=Builtin.copy_ #[sT,t6] T #[.slice (some ⟨r,0,none⟩) dl dc,w]) (by simp[Op.operands,Call.operands,e1,e2]) (by simp[execOp,aP,resolve,invoke,builtin,e1,e2]) ?_;obtain⟨A,c,rfl,hh⟩:=hw;have Hj:Nat.min l.length dl=l.length:=qCi hl;simp only[Builtin.copy_,qAD,qBc,qAU,Zh,Zy hu,Builtin.lenOf,Zj,Hj,Z6 i1,i2];have kC:∀(Q:Array Value->Bool->Hp->Prop),Q (l.map vi).toArray false H->cD P.toPQ (Builtin.firstCells 1 l.length (.slice A l.length c)) Q false H:=by
  intro Q hq;by_cases hn:l=[]
  ·subst hn;cases A<;>simpa[Builtin.firstCells,Zj,loadCells,loadCellsFrom]using hq
  obtain⟨a,rfl,QF⟩:=hh hn;rw[UT]at QF;simp only[Builtin.firstCells];exact WR bB QF hq (by simp)
 refine kC _ ?_;refine L8 _ _ (l.map vi) 0 0 cs H bB hb (by simp[Value.dZ]) (by simp;omega) ?_;simpa[goInt]using h
end
theorem Us{H:Hp}{o':Obj}:(H.ins r o).ins r o'=H.ins r o':=by
 refine Hp.ext' (λc=>?_) rfl;by_cases e:c=r
 ·subst e;rw[Hp.aF,Hp.aF]
 rw[Hp.aE _ _ e,Hp.aE _ _ e,Hp.aE _ _ e]
theorem VJ{H:Hp}:aD (H.ins r (.cells cs.toArray E)) ⟨r,0,none⟩ cs:=⟨rfl,_,_,Hp.aF _ _ _,λj hj=>by simp[Obj.mH]⟩
def Ys(l:List Int):N4:=.of λi=>l.getD i 0
def JG(G:Hp)(A:Hp->Prop)(H:Hp):Prop:=∃Hc F:Hp,H=Hc.join F/\Hc.Comp F/\bO G F/\A Hc
theorem JG.up{G:Hp}{A:Hp->Prop}{H:Hp}(hA:Up A)(h:JG G A H):A H:=by obtain⟨Hc,F,rfl,h1,_,h3⟩:=h;exact hA _ _ h1 h3
theorem JG.bA{G:Hp}{A:Hp->Prop}{H:Hp}(h:JG G A H):bO G H:=by obtain⟨Hc,F,rfl,h1,h2,_⟩:=h;exact λb x hb=>Hp.aS h1 (h2 b x hb)
theorem JG.of{G:Hp}{A B:Hp->Prop}{H:Hp}(h:JG G A H)(hB:∀Hc,A Hc->B Hc){G':Hp}(hG:bO G' G):JG G' B H:=by obtain⟨Hc,F,rfl,h1,h2,h3⟩:=h;exact⟨Hc,F,rfl,h1,hG.trans h2,hB _ h3⟩
theorem JG.new{G:Hp}{A:Hp->Prop}{H:Hp}(h:JG G A H)(o:Obj)(hr:H r=none):JG (G.ins r o) A (H.ins r o):=by
 obtain⟨Hc,F,rfl,h1,h2,h3⟩:=h;obtain⟨c1,c2⟩:=Hp.dR.1 hr;refine⟨Hc,F.ins r o,(Hp.iU c1).symm,⟨λb x y hx hy=>?_,h1.gh⟩,λb x hb=>?_,h3⟩
 ·by_cases e:b=r
  ·subst e;rw[c1]at hx;simp at hx
  rw[Hp.aE _ _ e]at hy;exact h1.mem b x y hx hy
 by_cases e:b=r
 ·subst e;rw[Hp.aF]at hb ⊢;exact hb
 rw[Hp.aE _ _ e]at hb ⊢;exact h2 b x hb
theorem JG.dD{G:Hp}{A:Hp->Prop}{H:Hp}(h:JG G A H)(o':Obj)(hr:G r=some (o,true)):JG (G.ins r o') A (H.ins r o'):=by
 obtain⟨Hc,F,rfl,h1,h2,h3⟩:=h;have c2:=h2 r _ hr;have c1:Hc r=none:=by
  cases hh:Hc r with
  | none=>rfl
  | some x=>have:=h1.mem r x _ hh c2;rw[this.1]at this;simp at this
 refine⟨Hc,F.ins r o',(Hp.iU c1).symm,⟨λb x y hx hy=>?_,h1.gh⟩,λb x hb=>?_,h3⟩
 ·by_cases e:b=r
  ·subst e;rw[c1]at hx;simp at hx
  rw[Hp.aE _ _ e]at hy;exact h1.mem b x y hx hy
 by_cases e:b=r
 ·subst e;rw[Hp.aF]at hb ⊢;exact hb
 rw[Hp.aE _ _ e]at hb ⊢;exact h2 b x hb
theorem JG.sub{G:Hp}{A:Hp->Prop}{H H':Hp}(h:JG G A H)(hs:H.Sub H'):JG G A H':=by
 classical
 obtain⟨Hc,F,rfl,h1,h2,h3⟩:=h
 refine⟨Hc,⟨λb=>if F b=none then(if Hc b=none then H' b else none)else F b,F.gh⟩,Hp.ext' (λb=>?_) ?_,⟨λb x y hx hy=>?_,h1.gh⟩,λb x hb=>?_,h3⟩
 ·show H' b=_;simp only[Hp.aX];cases hc:Hc b with
  | some x=>exact hs.mem b x (Hp.aK hc)
  | none=>
   cases hf:F b with
   | none=>simp
   | some y=>simp;exact hs.mem b y (by simp[Hp.aX,hc,hf])
 ·rw[hs.gh];rfl
 ·have hy:(if F b=none then(if Hc b=none then H' b else none)else F b)=some y:=hy;rw[hx]at hy;cases hf:F b with
  | none=>simp[hf]at hy
  | some z=>simp[hf]at hy;subst hy;exact h1.mem b x z hx hf
 ·show(if F b=none then(if Hc b=none then H' b else none)else F b)=some x;rw[h2 b x hb];simp
theorem JG.call{P:bF}{y:Value}{args:Array Value}{G:Hp}{A:Hp->Prop}{B:Value->Hp->Prop}{H:Hp}(hy:∀H,A H->ZX P y args H B)(h:JG G A H):ZX P y args H (λv H'=>JG G (B v) H'):=by obtain⟨Hc,F,rfl,h1,h2,h3⟩:=h;refine((hy Hc h3).frame h1).mono ?_;rintro v H' ⟨nA,rfl,h4,h5⟩;exact⟨nA,F,rfl,h4,h2,h5⟩
theorem ZgL{rest:List (List Value)}{I:Nat->Hp->Prop}(hI:∀n,Up (I n)):Up (wA xs I rest):=by rintro H J hc ⟨p,h1,h2,h3⟩;exact⟨p,h1,h2,hI p H J hc h3⟩
theorem Ux{H:Hp}{a:Addr}(h:aD H a cs){v:Value}(hj:cs[j]? = some v):aD H (a.add j) [v]:=by
 obtain⟨h1,o,p,h2,h3⟩:=h;have hl:j<cs.length:=(List.getElem?_eq_some_iff.1 hj).1;refine⟨W4 h1 _,o,p,by rw[LB];exact h2,λk hk=>?_⟩;have:k=0:=by simpa using hk
 subst this;rw[LC,qBY,h3 j hl,hj];rfl
theorem t4:Ym Tryz.prog 4=some (1,some (vb false),1):=U
abbrev pt(r:Nat):Value:=.pointer (some ⟨r,0,none⟩)
theorem YK{G H:Hp}(hi:bO G H)(hr:H r=none):G r=none:=by
 cases hh:G r with
 | none=>rfl
 | some x=>rw[hi r x hh]at hr;simp at hr
theorem RG{G G':Hp}(hi:bO G G')(hr:G r=none):bO G (G'.ins r o):=λb x hb=>by rw[Hp.aE _ _ (by rintro rfl;rw[hr]at hb;simp at hb)];exact hi b x hb
theorem ZC{H:Hp}{p:Bool}(h:H r=some (.cells cs.toArray E,p)):aD H ⟨r,0,none⟩ cs:=⟨rfl,_,_,h,λj hj=>by simp[Obj.mH]⟩
theorem Zm7{H0 H H':Hp}{b:Option Nat}(hs:bO H0 H)(hf:∀r,b=some r->H0 r=none)(c:DG H H' b b'):bO H0 H':=
 λd y hd=>c.keep d y (hs d y hd) (λe=>by rw[hf d e]at hd;simp at hd)
theorem fZ.B5[Enc α]{H0 H H':Hp}{v:Value}{l:List α}{b:Option Nat}(hs:bO H0 H)(h:fZ H0 H E v l b)(c:DG H H' b b'):∀r,b'=some r->H0 r=none:=by
 rcases c.new with rfl | ⟨r,rfl,hr⟩
 ·exact h.fresh
 intro r' e;obtain rfl:=dO e;exact YK hs hr
theorem fZ.bA[Enc α]{H0 H H':Hp}{v:Value}{l:List α}{b:Option Nat}(h:fZ H0 H E v l b)(hi:bO H H'):fZ H0 H' E v l b:=⟨h.own.sub λc y _ hc=>hi c y hc,h.fresh⟩
section
variable{P:bF}{H:Hp}{d:Option Nat}{next:aN->Hp->Prop}{σ:aN}{x y:Operand}
theorem Oa[Enc α]{H0:Hp}{s:Value}{l l':List α}{b:Option Nat}(hu:P.toProgram.underlying sT=some (.slice E))(HH:P.toProgram.underlying t6=some (.slice E))(ti:TI P.toProgram E (Enc.sz α) zv gR)(hz:zv.cells.size=Enc.sz α)(he:0<Enc.sz α)
  (hs:bO H0 H) (ho:fZ H0 H E s l b) (hw:aV H w l') (h1:((Zb l').all Value.dZ)=true) (gI:l.length+l'.length<=1000000000) (kS:gR<=1000) (e1:σ.get x=some s) (e2:σ.get y=some w) (bB:P.still H.gh=false)
  (h:∀v' H' b',bO H0 H'->fZ H0 H' E v' (l++l') b'->DG H H' b b'->next (σ.set d v') H'):(bC.raw (.call { callee:=.builtin .append,args:=#[x,y],argTypes:=#[sT,t6] }) T).m P d next σ H:=by
 obtain⟨A,c,rfl,h2⟩:=hw;by_cases hn:l'=[]
 ·subst hn;refine S9 hu HH ti hz he e1 e2 ho.own (m:=0) (xs:=[]) (.inl ⟨rfl,A,c,rfl⟩) (by simp) rfl gI kS bB λv' H' b' g1 g2=>?_;exact h v' H' b' (Zm7 hs ho.fresh g2) ⟨by simpa using g1,ho.B5 hs g2⟩ g2
 obtain⟨a,rfl,hc⟩:=h2 hn;refine S9 hu HH ti hz he e1 e2 ho.own (m:=l'.length) (xs:=Zb l') (.inr ⟨a,c,rfl,hc⟩) (VG l') h1 gI kS bB λv' H' b' g1 g2=>?_;refine h v' H' b' (Zm7 hs ho.fresh g2) ⟨?_,ho.B5 hs g2⟩ g2;rw[LJ,qAc];exact g1
end
def el(l:List Int)(i:Nat):Int:=l.getD i 0
theorem Uu(h:i<l.length):el l i=l[i]:=ZA h 0
theorem J0(x:Int)(j:Nat)(h:i<l.length):el (l.set i x) j=if j=i then x else el l j:=by
 unfold el;rw[qAo,qAo,qCY];by_cases e:j=i
 ·subst e;simp[h]
 rw[bY (qAi e),bY e]
structure AR(G H:Hp)(r:Nat)(l:List Int)(rest:List Value):Prop where
 keep:∀b x,b≠r->G b=some x->H b=some x
 at_:H r=some (.cells (Zb l++rest).toArray 3 (0,0),true)
theorem AR.of{H:Hp}(h:H r=some (.cells (Zb l++rest).toArray 3 (0,0),true)):AR H H r l rest:=⟨λ_ _ _ h=>h,h⟩
theorem AR.trans{G H H':Hp}{eZ:List Value}(h:AR G H r l rest)(h':AR H H' r l' eZ):AR G H' r l' eZ:=⟨λb x hb hx=>h'.keep b x hb (h.keep b x hb hx),h'.at_⟩
theorem AR.set{G H:Hp}(h:AR G H r l rest)(l':List Int)(eZ:List Value):AR G (H.ins r (.cells (Zb l'++eZ).toArray 3)) r l' eZ:=
 ⟨λb x hb hx=>by rw[Hp.aE _ _ hb];exact h.keep b x hb hx,Hp.aF _ _ _⟩
theorem AR.new{G H:Hp}{r':Nat}(h:AR G H r l rest)(hr:H r'=none):AR G (H.ins r' o) r l rest:=
 ⟨λb x hb hx=>(Yg hr).mem _ _ (h.keep b x hb hx),(Yg hr).mem _ _ h.at_⟩
theorem AR.bA{G0 G H:Hp}(h:AR G H r l rest)(hi:bO G0 G)(hr:G0 r=none):bO G0 H:=
 λb x hb=>h.keep b x (λe=>by rw[e,hr]at hb;simp at hb) (hi b x hb)
theorem Zvo(l:List Int)(i:Nat)(h:i<l.length):(Zb l)[i]? = some (vi (el l i)):=by rw[UT,qCZ,qAI h,Uu h];rfl
theorem VR(l:List Int):(Zb l).length=l.length:=by rw[UT,qAs]
theorem AR.cell{G H:Hp}(h:AR G H r l rest)(hj:j<l.length)(e:off=j):aD H ⟨r,off,none⟩ [vi (el l j)]:=by
 subst e;refine⟨rfl,_,_,h.at_,λk hk=>?_⟩;have IM:k=0:=by simpa using hk
 subst IM;have:(Zb l++rest)[off]? = some (vi (el l off)):=by rw[qAN (by rw[VR];exact hj),Zvo l off hj]
 simpa[Obj.mH]using this
theorem Vw(r o n:Nat):(⟨r,o,none⟩:Addr).add n=⟨r,o+n,none⟩:=by
 unfold Addr.add;split
 ·rename_i h;subst h;rfl
 rfl
theorem ZL(r k:Nat):(⟨r,0,none⟩:Addr).add (k * 1)=⟨r,k,none⟩:=by rw[Vw,qAu,Nat.mul_one]
theorem ZyD(r i k:Nat):((⟨r,0,none⟩:Addr).add (i * 1)).add (k * 1)=⟨r,i+k,none⟩:=by rw[ZL,Vw,Nat.mul_one]
theorem AR.cA{G H:Hp}(h:AR G H r l rest)(hj:i<l.length)(e:i=j:=by omega):aD H ((⟨r,0,none⟩:Addr).add (i * 1)) [vi (el l j)]:=
 ZL r i ▸ h.cell (off:=i) (j:=j) O e
theorem AR.Ka{G H:Hp}(h:AR G H r l rest)(hj:i+k<l.length)(e:i+k=j:=by omega):aD H (((⟨r,0,none⟩:Addr).add (i * 1)).add (k * 1)) [vi (el l j)]:=
 ZyD r i k ▸ h.cell (off:=i+k) (j:=j) O e
theorem ZoM(l:List Int)(rest:List Value)(n:Int)(hj:j<l.length):ZH (Zb l++rest) j [vi n]=Zb (l.set j n)++rest:=by
 unfold ZH;have h1:j<=(Zb l).length:=by rw[VR];omega
 have h2:j+1<=(Zb l).length:=by rw[VR];omega
 rw[qCb h1,show([vi n]:List Value).length=1 from rfl,List.drop_append_of_le_length h2,UT,UT,List.map_set,List.set_eq_take_append_cons_drop,iO (by simpa using hj)];simp
theorem ZvJ(l:List Int)(rest:List Value)(hk:k<=l.length):(Zb l++rest).take k++List.replicate (l.length-k) (vi 0)++(Zb l++rest).drop (k+(l.length-k))=Zb (l.take k++List.replicate (l.length-k) 0)++rest:=by rw[qCb (by rw[VR];exact hk),show k+(l.length-k)=(Zb l).length by rw[VR];omega,List.drop_left,LJ,UT,UT,UT,List.map_take,List.map_replicate]
section
variable{P:bF}[Tz P][Loud P]{H:Hp}{d:Option Nat}{next:aN->Hp->Prop}{σ:aN}{x y:Operand}
theorem Zd{a:Addr}{eH ln:Nat}{k:IntKind}{n:Int}(j:Nat)(e1:σ.get x=some (.slice (some a) ln c))(e2:σ.get y=some (.int k n))(e:n=(j:Int))(hj:j<ln)(h:next (σ.set d (.pointer (some (a.add (j * eH))))) H):(bC.cJ eH x y).m P d next σ H:=by subst e;exact OF e1 e2 hj h
theorem ZU{G:Hp}{a:Addr}{ty:Nat}{n:Int}(h:AR G H r l rest)(hj:j<l.length)(e:a=⟨r,j,none⟩)(e1:σ.get x=some (.pointer (some a)))(e2:σ.get y=some (vi n))
  (hn:∀H',AR G H' r (l.set j n) rest->next (σ.set d undef) H'):(bC.raw (.store 3 x y) ty).m P d next σ H:=by
 subst e;refine OD (eI t3) e1 e2 h.at_ rfl (by rw[qAc,VR];omega) rfl (Loud.aL _) ?_;rw[show(vi n).cells.toList=[vi n]from rfl,ZoM l rest n hj];exact hn _ (h.set _ _)
theorem Po(n:Nat):(Builtin.zeroCells #[vi 0] n).toList=List.replicate n (vi 0):=by simp only[Builtin.zeroCells];refine qCc (by simp) λi h1 h2=>?_;simp[Nat.mod_one]
theorem Ztk{G:Hp}{a:Addr}{T:Nat}(h:AR G H r l rest)(hk:off<l.length)(e:a=⟨r,off,none⟩)(en:n=l.length-off)(e1:σ.get x=some (.slice (some a) n cap))
  (hn:∀H',AR G H' r (l.take off++List.replicate (l.length-off) 0) rest->next (σ.set d undef) H'):(bC.raw (.call { callee:=.builtin .clear,args:=#[x],argTypes:=#[26] }) T).m P d next σ H:=by
 subst e en;obtain⟨p9,i1,i2,i3,i4⟩:=(eI (P:=P) t3).ex;refine YS (s:=Builtin.clear_ #[26] T #[.slice (some ⟨r,off,none⟩) (l.length-off) cap]) (by simp[Op.operands,Call.operands,e1]) (by simp[execOp,aP,resolve,invoke,builtin,e1]) ?_;have dG:∃m,l.length-off=m+1:=⟨l.length-off-1,O⟩;obtain⟨m,hm⟩:=dG;rw[hm];simp only[Builtin.clear_,qAD,qBc,Zh,Zy (dC (P:=P) oO),UC i1 i3,Zj];refine L8 _ _ _ off 0 (Zb l++rest) H (Loud.aL _) h.at_ ?_ ?_ ?_
 ·rw[show(vi 0).cells=#[vi 0]from rfl,Po];simp[Value.dZ]
 ·rw[show(vi 0).cells=#[vi 0]from rfl,Po];simp[VR];omega
 rw[show(vi 0).cells=#[vi 0]from rfl,Po,<-hm];simp only[qBY,qBv];rw[ZvJ l rest O];exact hn _ (h.set _ _)
end
def Ya(l:List Int):Nat->List Int
 | 0=>[]
 | n+1=>if n≠0/\el l n=el l (n-1)then Ya l n else Ya l n++[el l n]
def Oj(l:List Int):List Int:=Ya l l.length
theorem Zm4(h0:n≠0)(h:el l n=el l (n-1)):Ya l (n+1)=Ya l n:=by rw[Ya,iO ⟨h0,h⟩]
theorem Zm3(h:¬ el l n=el l (n-1)):Ya l (n+1)=Ya l n++[el l n]:=by rw[Ya,bY (λh'=>h h'.2)]
theorem ZvH(l:List Int):Ya l 1=[el l 0]:=by rw[Ya,bY (by simp)];rfl
theorem Qd(h:n<l.length):l.take (n+1)=l.take n++[el l n]:=by rw[qAd h,Uu h]
theorem Zo7(x:Int)(h:n<l.length):(l.set n x).take (n+1)=l.take n++[x]:=by rw[Qd (by simpa using h),J0 _ _ h,iO rfl,qCO (aC n)]
section
variable{P:bF}[Tz P][Loud P]{H:Hp}
theorem Zzm{H0:Hp}{v:Value}{bb:Option Nat}(hi:bO H0 H)(ho:fZ H0 H 3 v l bb)(hl:l.length<=1000000) :
  LL.Zc P 88 #[v] H λw H'=>bO H0 H'/\∃bb',fZ H0 H' 3 w (Oj l) bb':=by
 refine aO.m (cF c94) (args:=[v]) rfl ?_;unfold Rw;obtain⟨dJ,⟨rfl,h2,h3⟩ | ⟨r,cap,rest,h1,rfl,h3,h4,h5⟩⟩:=id ho.own
 ·have:l=[]:=qAf h2;subst this;refine Y ?_;exact⟨hi,bb,ho⟩
 have BB:H0 r=none:=ho.fresh r h1;rw[qAc,VR]at h4;have h4':l.length+rest.length=cap * 1:=h4;refine Y ?_;refine OI (λg1=>?_) (λg1=>?_)
 ·refine Y ?_;refine⟨hi,bb,?_⟩;have:Oj l=l:=by
   match l,g1 with
   | [],_=>rfl
   | [x],_=>rfl
   | x :: y :: t,h=>simp at h;omega
  rw[this];exact ho
 have g1:2<=l.length:=O;refine Y ?_;refine Zw (l.length-1) (λj H'=>H=H'/\Ya l (j+1)=l.take (j+1)) (λj=>[(0,.slice (some ⟨r,0,none⟩) l.length cap),(3,vi ((j+1:Nat):Int))]) (λj=>[]) ⟨rfl,by rw[ZvH,Qd O];rfl⟩ V trivial ?_;rintro j _ hj ⟨rfl,Iv⟩;have nL:=AR.of h3;refine Y ?_;refine OI (λg2=>?_) (λg2=>?_)
 ·have g2:j+1<l.length:=O;refine Y ?_;refine OF rfl rfl g2 (Y ?_);refine Zg (OL _) rfl (nL.cA g2 rfl) (Y ?_);refine Zd j rfl rfl O O (Y ?_);refine Zg (OL _) rfl (nL.cA O rfl) (Y ?_);refine OI (λg3=>?_) (λg3=>?_)
  ·have BR:¬ cap=j+1:=O;refine Y ?_;refine ZiD (lo:=j+1) (dC oO) (eI t3) rfl rfl O ?_;rw[bY BR];have rL:Ya l (j+2)=l.take (j+1):=by rw[Zm4 O (by simpa using g3),Iv]
   refine Y ?_;refine ZQ (α:=List Int) (l.length-(j+1)-1) (λi c H'=>AR H H' r c rest/\c.length=l.length/\c.take (Ya l (j+1+i+1)).length=Ya l (j+1+i+1)/\(∀x,j+1+i<=x->el c x=el l x)/\(Ya l (j+1+i+1)).length<=j+1+i/\1<=(Ya l (j+1+i+1)).length)
    (λi c=>[(0,.slice (some ⟨r,0,none⟩) l.length cap),(3,vi ((Ya l (j+1+i+1)).length:Nat)),(4,.slice (some ((⟨r,0,none⟩:Addr).add ((j+1) * 1))) (l.length-(j+1)) (cap-(j+1))),(5,vi ((i+1:Nat):Int))]) (λi c=>[]) l ?_ ⟨rfl,?_,rfl,rfl,trivial⟩ trivial ?_
   ·have e2:(Ya l (j+1+0+1)).length=j+1:=by rw[show j+1+0+1=j+2 from rfl,rL,qBm];omega
    exact⟨nL,rfl,by rw[e2];exact rL.symm,λ_ _=>rfl,O,O⟩
   ·show some (vi _)=some (vi _);rw[show j+1+0+1=j+2 from rfl,rL,qBm,qCi O]
   rintro i c H2 pU ⟨ar,bU,WH,QD,sY,yY⟩;generalize rI:(Ya l (j+1+i+1)).length=k at *;have Wc:l.length-(j+1)<=1000000:=O;refine Y ?_;refine OI (λg4=>?_) (λg4=>?_)
   ·have g4:i+1<l.length-(j+1):=O;refine Y ?_;refine OF rfl rfl g4 (Y ?_);refine Zg (OL _) rfl (ar.Ka (j:=j+1+(i+1)) O rfl) (Y ?_);refine Zd i rfl rfl O O (Y ?_);refine Zg (OL _) rfl (ar.Ka (j:=j+1+i) O rfl) ?_;rw[QD _ O,QD _ O];refine Y ?_;refine OI (λg5=>?_) (λg5=>?_)
    ·refine Y ?_;refine OF rfl rfl g4 (Y ?_);refine Zg (OL _) rfl (ar.Ka (j:=j+1+(i+1)) O rfl) ?_;rw[QD _ O];refine Y ?_;refine OF rfl rfl (show k<l.length by omega) (Y ?_);refine ZU (j:=k) ar O (ZL _ _) rfl rfl λH3 pX=>?_;have em:Ya l (j+1+(i+1)+1)=Ya l (j+1+i+1)++[el l (j+1+(i+1))]:=Zm3 (n:=j+1+(i+1)) g5;have ek:(Ya l (j+1+(i+1)+1)).length=k+1:=by rw[em,qAc,rI];rfl
     refine Y ?_;refine⟨(⟨i+1,O⟩,c.set k (el l (j+1+(i+1)))),dX O,⟨pX,by simpa using bU,?_,λx hx=>?_,by rw[ek];show k+1<=j+1+(i+1);omega,by rw[ek];omega⟩,⟨rfl,?_,rfl,rfl,trivial⟩,trivial,rfl⟩
     ·rw[ek,Zo7 _ O,WH,em]
     ·have hx:j+1+(i+1)<=x:=hx;rw[J0 _ _ O,bY O];exact QD x O
     show _=some (vi ((Ya l (j+1+(i+1)+1)).length:Nat));rw[ek];rfl
    have em:Ya l (j+1+(i+1)+1)=Ya l (j+1+i+1):=Zm4 (n:=j+1+(i+1)) O g5;refine Y ?_;refine⟨(⟨i+1,O⟩,c),dX O,⟨ar,bU,?_,λx hx=>QD x (by have hx:j+1+(i+1)<=x:=hx;omega),by rw[em,rI];show k<=j+1+(i+1);omega,by rw[em,rI];omega⟩,⟨rfl,?_,rfl,rfl,trivial⟩,trivial,rfl⟩
    ·rw[em,rI,WH]
    show _=some (vi ((Ya l (j+1+(i+1)+1)).length:Nat));rw[em,rI];rfl
   have hm:j+1+i+1=l.length:=O;rw[hm]at WH rI;refine Y ?_;refine ZiD (lo:=k) (dC oO) (eI t3) rfl rfl O ?_;rw[bY O];refine Y ?_;refine Ztk ar O (ZL _ _) (by rw[bU]) rfl λH3 pX=>Y ?_;refine Ls (k:=.i64) (lo:=0) (hi:=k) (dC oO) (eI t3) rfl (.inl ⟨rfl,rfl⟩) ⟨_,rfl,rfl⟩ (qAR _) O (Y ?_);have hz:¬ cap=0:=O;refine⟨(pX.bA hi BB),some r,⟨⟨?_,.inr ⟨r,cap,List.replicate (c.length-k) (vi 0)++rest,rfl,?_,?_,?_,?_⟩⟩,λr' e=>by obtain rfl:=dO e;exact BB⟩⟩
   ·rw[VR];show _=(Oj l).length * 1;omega
   ·rw[bY hz];show Value.slice (some ((⟨r,0,none⟩:Addr).add (0 * 1))) (k-0) (cap-0)=_;rw[ZL,qBg,qBg,<-rI];rfl
   ·have h:=pX.at_;rw[WH,LJ,show Zb (List.replicate (c.length-k) (0:Int))=List.replicate (c.length-k) (vi 0)by rw[UT,List.map_replicate],qBy]at h;exact h
   ·rw[qAc,qAc,VR,qBv,bU];show(Ya l l.length).length+_=cap * 1;rw[rI];omega
   show(Ya l l.length).length<=cap;omega
  refine Y ?_;refine⟨⟨j+1,O⟩,dX O,⟨rfl,?_⟩,V,trivial,rfl⟩;rw[Zm3 (by simpa using g3),Iv,Qd g2]
 have:j+1=l.length:=O;refine Y ?_;refine⟨hi,bb,?_⟩;have:Oj l=l:=by rw[Oj,<-this,Iv,this,qAw]
 rw[this];exact ho
end
def cY(l:List Int)(i j:Nat):List Int:=(l.set i (el l j)).set j (el l i)
theorem SS(l:List Int)(i j:Nat):(cY l i j).length=l.length:=by simp[cY]
theorem Yi(k:Nat)(hi:i<l.length)(hj:j<l.length):el (cY l i j) k=if k=j then el l i else if k=i then el l j else el l k:=by unfold cY;rw[J0 _ _ (by simpa using hj),J0 _ _ hi]
inductive Rg (a b:Nat):List Int->List Int->Prop
 | refl (l:List Int):Rg a b l l
 | step {l l':List Int} (i j:Nat):Rg a b l l'->a<=i->i<b->a<=j->j<b->Rg a b l (cY l' i j)
theorem Rg.len(h:Rg a b l l'):l'.length=l.length:=by
 induction h with
 | refl=>rfl
 | step i j _ _ _ _ _ ih=>rw[SS,ih]
theorem Rg.trans{Sc:List Int}(h:Rg a b l l')(h':Rg a b l' Sc):Rg a b l Sc:=by
 induction h' with
 | refl=>exact h
 | step i j _ h1 h2 h3 h4 ih=>exact .step i j ih h1 h2 h3 h4
theorem Rg.mono{a' b':Nat}(h:Rg a b l l')(ha:a'<=a)(hb:b<=b'):Rg a' b' l l':=by
 induction h with
 | refl=>exact .refl _
 | step i j _ h1 h2 h3 h4 ih=>exact .step i j ih O O O O
theorem Rg.out(h:Rg a b l l')(hb:b<=l.length)(hk:k<a\/b<=k):el l' k=el l k:=by
 induction h with
 | refl=>rfl
 | step i j h' h1 h2 h3 h4 ih=>
  have:=h'.len;rw[Yi _ O O,bY O,bY O,ih]
theorem Rg.all(h:Rg a b l l')(hb:b<=l.length){p:Int->Prop}(hp:∀k,a<=k->k<b->p (el l k)):∀k,a<=k->k<b->p (el l' k):=by
 induction h with
 | refl=>exact hp
 | step i j h' h1 h2 h3 h4 ih=>
  intro k sY yY;have:=h'.len;rw[Yi _ O O];split
  ·exact ih i h1 h2
  split
  ·exact ih j h3 h4
  exact ih k sY yY
theorem Zoy(hi:i<l.length)(hj:j<l.length):(cY l i j).Perm l:=by unfold cY;rw[Uu hi,Uu hj];exact List.set_set_perm hi hj
theorem Rg.perm(h:Rg a b l l')(hb:b<=l.length):l'.Perm l:=by
 induction h with
 | refl=>exact .refl _
 | step i j h' h1 h2 h3 h4 ih=>
  have:=h'.len;exact(Zoy O O).trans ih
def So(a b:Nat)(l:List Int):Prop:=∀i j,a<=i->i<=j->j<b->el l i<=el l j
theorem Um(l:List Int)(h:b<=a+1):So a b l:=λi j h1 h2 h3=>by have:i=j:=O;subst this;exact qAy _
theorem V5(h:∀i,a<=i->i+1<b->el l i<=el l (i+1)):So a b l:=by
 intro i j hi nU hj;obtain⟨d,rfl⟩:=Nat.exists_eq_add_of_le nU;clear nU;induction d with
 | zero=>exact qAy _
 | succ d ih=>exact qBz (ih O) (h (i+d) O O)
section
variable{P:bF}[Tz P][Loud P]{H:Hp}
theorem Pg(n:Int):LL.Zc P 215 #[vi n] H λv H'=>H=H'/\v=vb false:=by refine aO.m (cF Zv3) (args:=[vi n]) rfl ?_;unfold Zjm;refine Y ?_;exact⟨rfl,by simp[YR]⟩
theorem VL(m n:Int):LL.Zc P 177 #[vi m,vi n] H λv H'=>H=H'/\v=vb (decide (m<n)):=by refine aO.m (cF Zwg) (args:=[vi m,vi n]) rfl ?_;unfold Zjz;refine Y ?_;refine Za (vs:=[vi m]) rfl (Pg _) ?_;rintro v _ ⟨rfl,rfl⟩;refine Y ?_;exact⟨rfl,rfl⟩
def Xw(P:bF)(f:Nat)(H:Hp)(r cap:Nat)(l:List Int)(rest:List Value)(a b:Nat)(more:List Value)(Q:Value->List Int->Prop):Prop:=
 LL.Zc P f (.slice (some ⟨r,0,none⟩) l.length cap :: vi a :: vi b :: more).toArray H λv H'=>∃l',AR H H' r l' rest/\Rg a b l l'/\Q v l'
theorem ZuC(hA:H r=some (.cells (Zb l++rest).toArray 3 (0,0),true))(rW:a<=b)(hb:b<=l.length)(hl:l.length<=1000000) :
  Xw P 171 H r cap l rest a b [] λ_ l'=>So a b l':=by
 refine aO.m (cF Zwm) (args:=[.slice (some ⟨r,0,none⟩) l.length cap,vi a,vi b]) rfl ?_;unfold ZjF;refine Y ?_;refine ZQ (α:=List Int) (b-(a+1)) (λj c H'=>AR H H' r c rest/\Rg a b l c/\So a (a+1+j) c) (λj c=>[(0,.slice (some ⟨r,0,none⟩) l.length cap),(1,vi a),(2,vi b),(6,vi ((a+1+j:Nat):Int))]) (λj c=>[]) l ⟨AR.of hA,.refl l,Um l O⟩ V trivial ?_;rintro i c H1 hi ⟨ar,rg,so⟩;have bU:=rg.len;refine Y ?_;refine OI (λg1=>?_) (λg1=>?_)
 ·have g1:a+1+i<b:=O;refine Y ?_;refine ZQ (α:=List Int) (i+1) (λk c' H'=>AR H H' r c' rest/\Rg a b l c'/\(∀x y,a<=x->x<=y->y<=a+1+i->x≠a+1+i-k->y≠a+1+i-k->el c' x<=el c' y)/\(∀y,a+1+i-k<y->y<=a+1+i->el c' (a+1+i-k)<=el c' y))
   (λk c'=>[(0,.slice (some ⟨r,0,none⟩) l.length cap),(1,vi a),(2,vi b),(6,vi ((a+1+i:Nat):Int)),(7,vi ((a+1+i-k:Nat):Int))]) (λk c'=>[]) c ⟨ar,rg,λx y h1 h2 h3 h4 h5=>so x y h1 h2 O,λy h1 h2=>O⟩ V trivial ?_
  rintro k c' H2 hk ⟨kG,mW,lM,pK⟩;have mB:=mW.len;have IP:a+1+i-k<l.length:=O;obtain⟨j,hj⟩:∃j,a+1+i-k=j:=⟨_,rfl⟩;rw[hj]at lM pK ⊢;refine Y ?_;refine OI (λha=>?_) (λha=>?_)
  ·have ha:a<j:=O;refine Y ?_;refine Zd j rfl rfl rfl O (Y ?_);refine Zg (OL _) rfl (kG.cA O rfl) (Y ?_);refine Zd (j-1) rfl rfl O O (Y ?_);refine Zg (OL _) rfl (kG.cA O rfl) (Y ?_);refine Za (vs:=[vi (el c' j),vi (el c' (j-1))]) rfl (VL _ _) ?_;rintro v _ ⟨rfl,rfl⟩;refine Y ?_;refine OI (λsV=>?_) (λsV=>?_)
   ·refine Y ?_;refine Zd (j-1) rfl rfl O O (Y ?_);refine Zg (Loud.aL _) rfl (AR.cA kG O rfl) (Y ?_);refine Zd j rfl rfl O O (Y ?_);refine Zg (Loud.aL _) rfl (AR.cA kG O rfl) (Y ?_);refine Zd j rfl rfl O O (Y ?_);refine ZU kG O (ZL _ _) rfl rfl λHW fQ=>?_;refine Zq Loud.aL (Y ?_);refine Zd (j-1) rfl rfl O O (Y ?_);refine ZU fQ (by rw[IF];omega) (ZL _ _) rfl rfl λH4 dV=>Y ?_;have lA:(c'.set j (el c' (j-1))).set (j-1) (el c' j)=cY c' j (j-1):=rfl;rw[lA]at dV;have pV:∀x,el (cY c' j (j-1)) x=if x=j-1 then el c' j else if x=j then el c' (j-1)else el c' x:=λx=>Yi x O O
    have jD:∀x,x≠j-1->el (cY c' j (j-1)) x=if x=j then el c' (j-1)else el c' x:=λx hx=>by rw[pV,bY hx]
    have rJ:el (cY c' j (j-1)) (j-1)=el c' j:=by rw[pV,iO rfl]
    have rU:a+1+i-(k+1)=j-1:=O;refine⟨(⟨k+1,O⟩,cY c' j (j-1)),dX O,⟨dV,.step _ _ mW O O O O,?_,?_⟩,⟨rfl,rfl,rfl,rfl,?_,trivial⟩,trivial,rfl⟩
    ·show ∀x y,a<=x->x<=y->y<=a+1+i->x≠a+1+i-(k+1)->y≠a+1+i-(k+1)->_;intro x y h1 h2 h3 h4 h5;rw[rU]at h4 h5;rw[jD x h4,jD y h5];by_cases hx:x=j
     ·rw[iO hx];by_cases hy:y=j
      ·rw[iO hy];exact qAy _
      rw[bY hy];exact lM _ _ O O h3 O hy
     rw[bY hx];by_cases hy:y=j
     ·rw[iO hy];exact lM _ _ h1 O O hx O
     rw[bY hy];exact lM _ _ h1 h2 h3 hx hy
    ·show ∀y,a+1+i-(k+1)<y->y<=a+1+i->el (cY c' j (j-1)) (a+1+i-(k+1))<=_;intro y h1 h2;rw[rU]at h1 ⊢;rw[rJ,jD y O];by_cases hy:y=j
     ·rw[iO hy];omega
     rw[bY hy];exact pK _ O h2
    show some (vi ((j:Int)-1))=some (vi ((a+1+i-(k+1):Nat):Int));rw[show(a+1+i-(k+1):Nat)=j-1 by omega,show((j-1:Nat):Int)=(j:Int)-1 by omega]
   refine Y ?_;refine⟨(⟨i+1,O⟩,c'),dX O,⟨kG,mW,?_⟩,V,trivial,rfl⟩;show So a (a+1+(i+1)) c';refine V5 λx h1 h2=>?_;by_cases e1:x=j
   ·subst e1;exact pK _ O O
   by_cases e2:x+1=j
   ·subst e2;rw[qBb]at sV;omega
   exact lM _ _ h1 O O e1 e2
  have ha:j=a:=O;subst ha;refine Y ?_;refine⟨(⟨i+1,O⟩,c'),dX O,⟨kG,mW,?_⟩,V,trivial,rfl⟩;refine V5 λx h1 h2=>?_;have h2:x+1<j+1+(i+1):=h2;by_cases e1:x=j
  ·subst e1;exact pK _ O O
  exact lM _ _ h1 O O e1 O
 refine Y ?_;refine⟨c,ar,rg,?_⟩;intro x y h1 h2 h3;exact so x y h1 h2 O
end
