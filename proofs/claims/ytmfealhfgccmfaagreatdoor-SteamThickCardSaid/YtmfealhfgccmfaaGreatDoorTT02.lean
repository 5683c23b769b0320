import Derived.Test.YtmfealhfgccmfaaGreatDoorTT01
set_option linter.all false
set_option maxHeartbeats 16000000
set_option maxRecDepth 20000
def GB{G:Prop}(h:G:=by refine Y ?_;refine sV (j:=j) rfl rfl O (Y ?_);refine wB (OL _) rfl rfl (mV r (j:=j) O) (Y ?_);exact⟨rfl,rfl⟩):G:=h
open Go Go.LL
namespace Go.Proofs
variable{r rm:Nat}{G:Hp}
structure R5 where
 (a b c d e:Int)
def R5.get(n:R5):Nat->Int
 | 0=>n.a
 | 1=>n.b
 | 2=>n.c
 | 3=>n.d
 | _=>n.e
def R5.cells(n:R5):List Value:=[vi n.a,vi n.b,vi n.c,vi n.d,vi n.e]
abbrev iZ(n:R5):Value:=.agg #[vi n.a,vi n.b,vi n.c,vi n.d,vi n.e]
instance:Enc R5:=⟨5,R5.cells,λ_=>rfl⟩
def R5.put(n:R5)(j:Nat)(v:Int):R5:=⟨if j=0 then v else n.a,if j=1 then v else n.b,if j=2 then v else n.c,if j=3 then v else n.d,if j=4 then v else n.e⟩
theorem mV(n:R5){j:Nat}(a:j<5):n.cells[0+j * 1]? = some (vi (n.get j)):=by
 match j,a with
 | 0,_=>rfl
 | 1,_=>rfl
 | 2,_=>rfl
 | 3,_=>rfl
 | 4,_=>rfl
theorem Es(n:R5){j:Nat}(v:Int)(a:j<5):ZR n.cells (0+j * 1) [vi v]=(n.put j v).cells:=by
 match j,a with
 | 0,_=>rfl
 | 1,_=>rfl
 | 2,_=>rfl
 | 3,_=>rfl
 | 4,_=>rfl
theorem Er(n:R5){i j:Nat}(v:Int)(a:i<5)(b:j<5):(n.put j v).get i=if i=j then v else n.get i:=by
 match i,a,j,b with
 | 0,_,0,_ | 0,_,1,_ | 0,_,2,_ | 0,_,3,_ | 0,_,4,_=>rfl
 | 1,_,0,_ | 1,_,1,_ | 1,_,2,_ | 1,_,3,_ | 1,_,4,_=>rfl
 | 2,_,0,_ | 2,_,1,_ | 2,_,2,_ | 2,_,3,_ | 2,_,4,_=>rfl
 | 3,_,0,_ | 3,_,1,_ | 3,_,2,_ | 3,_,3,_ | 3,_,4,_=>rfl
 | 4,_,0,_ | 4,_,1,_ | 4,_,2,_ | 4,_,3,_ | 4,_,4,_=>rfl
def R5.Ok(n:R5):Prop:=∀j,j<5->0<=n.get j/\n.get j<=959
def lT{a b:Int}(f:-959<=a/\a<=959)(hb:-959<=b/\b<=959):-919681<=a * b/\a * b<=919681:=by have c:(a * b).natAbs=a.natAbs * b.natAbs:=Int.natAbs_mul a b;have e:a.natAbs * b.natAbs<=959 * 959:=qBK O O;omega
def E9{a b:Int}(f:-919681<=a/\a<=919681):-919681<=a.tdiv b/\a.tdiv b<=919681:=by have c:(a.tdiv b).natAbs=a.natAbs / b.natAbs:=Int.natAbs_tdiv a b;have e:a.natAbs / b.natAbs<=a.natAbs:=qDx _ _;omega
def uJ(l:List mH)(x:Int):Nat->Nat->Nat
 | 0,i=>i
 | k+1,i=>if(l.getD (i+1) ⟨0,0,0⟩).h<x then uJ l x k (i+1)else i
def l8(l:List mH)(x:Int):Nat:=uJ l x (l.length-2) 0
def wD(n a:Int):Int:=if n.tmod a<0 then n.tdiv a-1 else n.tdiv a
def yL(l:List mH)(i:Nat):mH:=l.getD i ⟨0,0,0⟩
def vZ(l:List mH)(r:R5)(x:Int):Int:=r.get (l8 l x)+wD ((r.get (l8 l x+1)-r.get (l8 l x)) * (x-(yL l (l8 l x)).h)) ((yL l (l8 l x+1)).h-(yL l (l8 l x)).h)
def iA{l:List mH}(h:iH l){i:Nat}(a:i<l.length):yL l i=l[i]/\rU l[i]:=⟨ZG a _,h.pt _ (iN a)⟩
section
variable{P:fP}[Tz P][Loud P]{H:Hp}
def NE{v:Value}{f:jV}{r:R5}{x:Int}(I:gJ H v f)(e:iH f.pt)(B:r.Ok)(X:kD f.pt<=x/\x<=jY f.pt):LL.Zb P 125 #[v,iZ r,vi x] H λv q=>H=q/\v=vi (vZ f.pt r x):=by
 obtain⟨C,c1,D,c2,F,c3,rfl,t,R,S⟩:=I;refine aU.m (fO WfB) rfl ?_;generalize f.pt=l at *;have W:=e.n;have N:kD l=(l[0]'O).h:=qAx mH.h (ZG O _);have Q:jY l=(l[l.length-1]'O).h:=qAx mH.h (ZG O _);have Z:=(iA e (show 0<l.length by omega)).2.1;have pN:=(iA e (show l.length-1<l.length by omega)).2.1;unfold I1;refine Y ?_;refine ZC (l.length-2) (λj q=>H=q/\uJ l x (l.length-2-j) j=l8 l x) (λj=>[(2,vi x),(3,vi 0),(4,vi 0),(7,vi j)]) (λ_=>[(3,[vi f.pk,.slice C l.length c1,.slice D f.tp.length c2,.slice F f.sk.length c3]),(4,r.cells)]) ⟨rfl,rfl⟩ V V ?_;rintro j _ U ⟨rfl,A⟩;have c:j+1<l.length:=O;have z:l.getD (j+1) ⟨0,0,0⟩=l[j+1]:=ZG c _;refine Y ?_;refine ZB (j+1) t c λa i=>Y ?_;refine Zh (OL _) rfl (by rw[add_zero];exact YN (cs:=[vi l[j+1].h]) (ds:=[vi l[j+1].lo,vi l[j+1].hi]) i) ?_;refine OJ (λp=>?_) (λp=>?_)
 ·have J:j<l.length-2:=by
   rcases qBh j (l.length-2)with h | h
   ·exact h
   obtain rfl:j=l.length-2:=O;simp only[show l.length-2+1=l.length-1 by omega]at p;omega
  have w:uJ l x (l.length-2-(j+1)) (j+1)=l8 l x:=by
   rw[<-A,show l.length-2-j=(l.length-2-(j+1))+1 by omega];show _=if _ then _ else _
   rw[z,qAa p]
  refine Y ?_;exact⟨⟨j+1,O⟩,gI O,⟨rfl,w⟩,V,V,rfl⟩
 have o:l8 l x=j:=by
  rw[<-A];cases hk:l.length-2-j with
  | zero=>rfl
  | succ k=>
   show(if _ then _ else _)=j;rw[z,iF p]
 have u:vZ l r x=r.get j+wD ((r.get (j+1)-r.get j) * (x-l[j].h)) (l[j+1].h-l[j].h):=by rw[vZ,o,(iA e (show j<l.length by omega)).1,(iA e c).1]
 rw[u];have rj:=B j O;have M:=B (j+1) O;have q0:=(iA e (show j<l.length by omega)).2.1;have q1:=(iA e c).2.1;have up:=e.up j c;have L:=lT (a:=r.get (j+1)-r.get j) (b:=x-l[j].h) ⟨O,O⟩ ⟨O,O⟩;refine Y ?_;refine ZB j t O λa i=>Y ?_;refine Zh (OL _) rfl (by rw[add_zero];exact YN (cs:=[vi (l[j]'O).h]) (ds:=[vi (l[j]'O).lo,vi (l[j]'O).hi]) i) (Y ?_);refine ZB (j+1) t c λa i=>Y ?_;refine Zh (OL _) rfl (by rw[add_zero];exact YN (cs:=[vi l[j+1].h]) (ds:=[vi l[j+1].lo,vi l[j+1].hi]) i) (Y ?_);refine sV (j:=j+1) rfl rfl O (Y ?_);refine wB (OL _) rfl rfl (mV r (j:=j+1) O) (Y ?_);refine sV (j:=j) rfl rfl O (Y ?_);refine wB (OL _) rfl rfl (mV r (j:=j) O) (Y ?_);refine u7 rfl rfl ⟨O,O⟩ ?_;generalize(r.get (j+1)-r.get j) * (x-l[j].h)=n at *;have td:=E9 (b:=l[j+1].h-l[j].h) L;refine Y ?_;refine yC rfl rfl O ⟨O,O⟩ (Y ?_);refine HH rfl rfl O (Y ?_);unfold wD;refine OI (λs=>?_) (λs=>?_)
 ·rw[qAa s];exact GB
 rw[iF s];exact GB
end
def qX(n:Nat):Nat->Nat->Nat
 | 0,k=>k
 | f+1,k=>if(k+1) * (k+1)<=n then qX n f (k+1)else k
def EO(n:Nat):∀f k,k<=n->qX n f k<=n
 | 0,k,h=>h
 | f+1,k,h=>by
  rw[qX];split
  ·rename_i a;exact EO n f (k+1) (by have:=Nat.le_mul_of_pos_left (k+1) (show 0<k+1 by omega);omega)
  exact h
def mJ(n:Nat):Nat:=qX n n 0
structure rV where
 (h b:Int) deriving DecidableEq
abbrev nS(k:rV):Value:=.agg #[vi k.h,vi k.b]
def z8(k:rV):Int:=(mJ (k.h * k.h+k.b * k.b).toNat:Nat)
def FB:Tryz.prog.underlying 425=some (.map 466 3):=U
def zA:rP Tryz.prog 466=some ([("high",3,0),("broad",3,1)],false):=U
section
variable{P:fP}[Tz P]{H:Hp}{g:Bool}{d:Nat}
def Cr{a b c e:Int}(Q:Bool->Bool->Hp->Prop)(h:Q (decide (a=c/\b=e)) g H):fZ P.toPQ (Op.equalIn (d+1+1) 466 (.agg #[vi a,vi b]) (.agg #[vi c,vi e])) Q g H:=by have s:∀(x y:Int) (Q:Value->Bool->Hp->Prop) g H,fZ P.toPQ (part 3 #[vi x,vi y] 0) Q g H↔Q (vi x) g H:=λx y Q g H=>Vg rfl Q;have t:∀(x y:Int) (Q:Value->Bool->Hp->Prop) g H,fZ P.toPQ (part 3 #[vi x,vi y] 1) Q g H↔Q (vi y) g H:=λx y Q g H=>Vg rfl Q;obtain⟨w,z,l,⟨m,u,o⟩,⟨n,v,q⟩,k⟩:=HJ (p:=P.toProgram) (by rw[Tz.prog (P:=P)];exact zA);rw[Op.equalIn];simp only[Zf,ZA l,Vw,k,oR,qAq,Zj];simp only[m,n,u,v,o,q,Zf,qBr,qBp,List.forIn_nil];by_cases i:a=c<;>by_cases j:b=e<;>simp[s,t,yT,Zf,Zj,i,j]at h ⊢<;>exact h
def M7{k:rV}{Q:Option (Nat×Value)->Bool->Hp->Prop}{g:Bool}{H:Hp}:∀(m:List (rV×Int)) (b i:Nat),Q (YS m k i) g H->fZ P.toPQ (Instr.findAsking 466 (nS k) (gF nS b m) i) Q g H
 | [],b,i,h=>by simpa[gF,Instr.findAsking,YS,Zj]using h
 | (f,v) :: r,b,i,h=>by
  simp only[gF,Instr.findAsking,Zf];show fZ P.toPQ (Op.equalIn (9998+1+1) 466 (nS k) (nS f)) _ g H;refine Cr _ ?_;rw[YS]at h;by_cases e:k=f
  ·rw[qAa e]at h;rw[decide_eq_true ⟨qAx rV.h e,qAx rV.b e⟩];simpa[Zj]using h
  rw[iF e]at h;rw[qAU (λn=>e (by obtain⟨a,b⟩:=k;obtain⟨c,d⟩:=f;obtain⟨j,l⟩:=n;simp only at j l;rw[j,l]))];simp only[oR,qAq];exact M7 r (b+1) (i+1) h
theorem Dh{t:TypeDesc}{k:rV}:∀(m:List (rV×Int)) (b i:Nat),Instr.findNow t (nS k) (gF nS b m) i=(if m=[]then some none else none)
 | [],b,i=>rfl
 | (a,v) :: r,b,i=>by simp only[gF,Instr.findNow];cases t<;>rfl
def HX:MA (α:=rV) P.toPQ 466 nS where
 chk:=λb a Q g H h=>by
  have s:∀(x y:Int) (Q:Value->Bool->Hp->Prop) g H,fZ P.toPQ (part 3 #[vi x,vi y] 0) Q g H↔Q (vi x) g H:=λx y Q g H=>Vg rfl Q;have t:∀(x y:Int) (Q:Value->Bool->Hp->Prop) g H,fZ P.toPQ (part 3 #[vi x,vi y] 1) Q g H↔Q (vi y) g H:=λx y Q g H=>Vg rfl Q;have u:∀(v:Int) (Q:Unit->Bool->Hp->Prop) g H,fZ P.toPQ (Instr.checkKey b 9999 3 (vi v)) Q g H↔Q () g H:=λv Q g H=>by rw[show(9999:Nat)=9998+1 from rfl,Instr.checkKey];simp only[Zf,ZA (fU (P:=P) vD),Zj]
  obtain⟨j,k,i,⟨l,w,o⟩,⟨n,z,q⟩,A⟩:=HJ (p:=P.toProgram) (by rw[Tz.prog (P:=P)];exact zA);rw[show(10000:Nat)=9999+1 from rfl,Instr.checkKey];simp only[Zf,ZA i];have pm:∀{α β:Type} (f:α->β) (x:Sem α) (Q:β->Bool->Hp->Prop) g H,fZ P.toPQ (f <$> x) Q g H↔fZ P.toPQ x (λa g H=>Q (f a) g H) g H:=λf x Q g H=>by have e:f <$> x=(do let a <-x;pure (f a)):=rfl;rw[e,Zf];exact qDe
  simp only[l,n,w,z,o,q,Zf,qBr,qBp,List.forIn_nil];simpa[s,t,u,pm,Zf,Zj]using h
 N6:=λm a Q g H h=>by
  obtain⟨j,k,i,_⟩:=HJ (p:=P.toProgram) (by rw[Tz.prog (P:=P)];exact zA);simp only[Instr.findKey,Zf,ZA i,Dh];by_cases e:m=[]
  ·subst e;simpa[YS,Zj]using h
  rw[iF e];exact M7 m 0 0 h
 C6:=λa=>by obtain⟨a,b⟩:=a;simp[Instr.sameBits]
end
section
variable{P:fP}{d:Option Nat}{next:fG->Hp->Prop}{σ:fG}{H:Hp}{x y:Operand}{ty:TypeId}{α:Type}[DecidableEq α]{kv:α->Value}{T K E:TypeId}
def Cc{m:List (α×Int)}{a:α}{pm:Bool}{b:Nat}(k:P.toProgram.underlying T=some (.map K E))(i:MA P.toPQ K kv)(q:TI P.toProgram E 1 (vi 0) b)(e:σ.get x=some (.map (some r)))(f:σ.get y=some (kv a))(j:H r=some (YR kv m,pm))(c:P.still H.gh=false)
  (h:next (σ.set d (.tuple #[vi (ZF m a),vb (YS m a 0).isSome])) H):(fR.raw (.lookup T x y true) ty).m P d next σ H:=by
 obtain⟨o,l,t,n,u⟩:=q.ex;refine YX (by simp[Op.operands,e,f]) (s:=Instr.lookup T (.map (some r)) (kv a) true) (by simp[execOp,fL,e,f]) ?_;simp only[Instr.lookup,Zf,ZA k];refine⟨_,_,⟨c,j⟩,rfl,rfl,?_⟩;rw[YR,fZ];simp only[Zf,Zj];refine i.chk _ _ ?_;refine i.N6 m a ?_;have:=Zma m a 0;cases hf:YS m a 0 with
 | none=>
  rw[hf]at this h;simp only at this ⊢;simp only[Zf,Us l n,Zj,qBb];rw[this];exact h
 | some p=>
  rw[hf]at this h;simp only at this ⊢;simp only[Zf,Zj,qBb];rw[this];exact h
end
section
variable{α:Type}[DecidableEq α]
def Di(m:List (α×Int))(a b:α)(w:Int)(h:b≠a):∀i,YS (ZD m a w) b i=none↔YS m b i=none:=by
 induction m with
 | nil=>intro i;simp[ZD,YS,h]
 | cons p r ih=>
  obtain⟨k,v⟩:=p;intro i;rw[ZD];by_cases e:a=k
  ·rw[qAa e,YS,YS];subst e;rw[iF h,iF h]
  rw[iF e,YS,YS];by_cases c:b=k
  ·rw[qAa c,qAa c]
  rw[iF c,iF c];exact ih (i+1)
end
def MR(m:List (rV×Int)):Prop:=∀k,YS m k 0≠none->ZF m k=z8 k
def y5{H:Hp}{o:Obj}(h:H r=some (o,true)):H=H.ins r o:=by
 refine Hp.ext' (λc=>?_) rfl;by_cases e:c=r
 ·subst e;rw[Hp.aQ,h]
 rw[Hp.aR _ _ e]
def _root_.Go.LL.aM.insM{H:Hp}{a:Addr}{cs:List Value}{m:List (rV×Int)}{o:Obj}(h:aM H a cs)(j:H r=some (YR nS m,true)):cs=[]\/aM (H.ins r o) a cs:=by
 obtain⟨i,k,p,b,f⟩:=h;by_cases e:a.block=r
 ·cases cs with
  | nil=>exact .inl rfl
  | cons c cs=>
   exfalso;have:=f 0 (by simp);rw[e]at b;rw[j]at b;simp only[IF,qAX]at b;rw[<-b.1]at this;simp[YR,Obj.nC]at this
 exact .inr ⟨i,k,p,by rw[Hp.aR _ _ e];exact b,f⟩
def dF.insM{α:Type}[Enc α]{H:Hp}{v:Value}{l:List α}{m:List (rV×Int)}{o:Obj}(h:dF H v l)(b:0<Enc.sz α)(s:H r=some (YR nS m,true)):dF (H.ins r o) v l:=by
 obtain⟨A,c,p,q⟩:=h;refine⟨A,c,p,λi=>?_⟩;obtain⟨a,j,k⟩:=q i;rcases k.insM s with e | n
 ·exfalso;have f:=Y7 l;rw[e]at f;have f:0=l.length * Enc.sz α:=f;have t:=Nat.mul_pos (qBY.2 i) b;omega
 exact⟨a,j,n⟩
def gJ.insM{H:Hp}{v:Value}{f:jV}{m:List (rV×Int)}{o:Obj}(h:gJ H v f)(a:H r=some (YR nS m,true)):gJ (H.ins r o) v f:=by obtain⟨b,c1,c,c2,e,c3,i,j,k,l⟩:=h;exact⟨b,c1,c,c2,e,c3,i,j.insM (show 0<3 by decide) a,k.insM (show 0<4 by decide) a,l.insM (show 0<3 by decide) a⟩
section
variable{P:fP}[Tz P][Loud P]{H:Hp}
def Hq(n:Nat)(t:n<=3000000):LL.Zb P 372 #[vi n] H λv b=>H=b/\v=vi (mJ n):=by
 refine aU.m (fO Be) rfl ?_;unfold IK;refine Y ?_;refine ZC n (λj b=>H=b/\qX n (n-j) j=mJ n) (λj=>[(0,vi n),(3,vi j)]) (λ_=>[]) ⟨rfl,rfl⟩ V trivial ?_;rintro j _ p ⟨rfl,h⟩;have s:(j+1) * (j+1)<=3000001 * 3000001:=qBK O O;have f:((j:Int)+1) * ((j:Int)+1)=(((j+1) * (j+1):Nat):Int):=by rw[qDd];rfl
 refine Y ?_;refine u7 rfl rfl (by rw[f];exact⟨O,O⟩) ?_;rw[f];generalize i:(j+1) * (j+1)=q at *;refine OJ (λl=>?_) (λl=>?_)
 ·have c:q<=n:=O;have o:j<n:=by have:=Nat.le_mul_of_pos_left (j+1) (show 0<j+1 by omega);omega
  have e:qX n (n-(j+1)) (j+1)=mJ n:=by
   rw[<-h,show n-j=(n-(j+1))+1 by omega];show _=if _ then _ else _
   rw[i,qAa c]
  refine Y ?_;exact⟨⟨j+1,O⟩,gI O,⟨rfl,e⟩,V,trivial,rfl⟩
 have a:mJ n=j:=by
  rw[<-h];cases hk:n-j with
  | zero=>rfl
  | succ k=>
   show(if _ then _ else _)=j;rw[i,iF O]
 refine Y ?_;exact⟨rfl,by rw[a];rfl⟩
def Hy{k:rV}{m:List (rV×Int)}(i:H r=some (YR nS m,true))(f:MR m)(c:(-959<=k.h/\k.h<=959)/\(-959<=k.b/\k.b<=959)):LL.Zb P 369 #[.map (some r),nS k] H λv o=>(∃l,MR l/\o=H.ins r (YR nS l))/\v=vi (z8 k):=by
 refine aU.m (fO Wff) rfl ?_;unfold JM;refine Y ?_;refine Cc (fU FB) HX (fT t3) (m:=m) (a:=k) rfl rfl i (OL _) ?_;cases hf:YS m k 0 with
 | some p=>
  have t:=f k (by rw[hf];simp);rw[t];refine Y ?_;exact⟨⟨m,f,y5 i⟩,rfl⟩
 | none=>
  have A:=lT c.1 c.1;have B:=lT c.2 c.2;have u:0<=k.h * k.h:=by
   have:k.h * k.h=((k.h.natAbs * k.h.natAbs:Nat):Int):=by rw[qDd];exact(Int.natAbs_mul_self' k.h).symm
   omega
  have z:0<=k.b * k.b:=by
   have:k.b * k.b=((k.b.natAbs * k.b.natAbs:Nat):Int):=by rw[qDd];exact(Int.natAbs_mul_self' k.b).symm
   omega
  have es:z8 k=(mJ (k.h * k.h+k.b * k.b).toNat:Nat):=rfl;refine Y ?_;refine u7 rfl rfl ⟨O,O⟩ (Y ?_);refine u7 rfl rfl ⟨O,O⟩ ?_;have q:k.h * k.h+k.b * k.b=((k.h * k.h+k.b * k.b).toNat:Int):=O;generalize(k.h * k.h+k.b * k.b).toNat=n at *;refine Y ?_;rw[q];refine Zo (vs:=[vi n]) (Hq n O) ?_;rw[<-es];refine Y ?_;refine Cd (fU FB) HX (m:=m) (a:=k) (w:=z8 k) rfl rfl rfl i (OL _) (Y ?_);refine⟨⟨ZD m k (z8 k),λj s=>?_,rfl⟩,rfl⟩;rw[Km];by_cases e:j=k
  ·rw[qAa e,e]
  rw[iF e];exact f j λh=>s ((Di m k j _ e 0).2 h)
def EV{k:rV}(a:(-959<=k.h/\k.h<=959)/\(-959<=k.b/\k.b<=959)):0<=z8 k/\z8 k<=1839362:=by have c:=lT a.1 a.1;have f:=lT a.2 a.2;have:=EO (k.h * k.h+k.b * k.b).toNat (k.h * k.h+k.b * k.b).toNat 0 (qBf _);have e:z8 k=(mJ (k.h * k.h+k.b * k.b).toNat:Nat):=rfl;rw[e];unfold mJ;omega
def lG(l:List mH)(r:R5)(i:Nat):rV:=⟨(yL l (i+1)).h-(yL l i).h,max (r.get i-r.get (i+1)) (r.get (i+1)-r.get i)⟩
def kG(l:List mH)(r:R5)(a:Nat):Nat->Int
 | 0=>0
 | k+1=>kG l r a k+z8 (lG l r (a+k))
def EU{l:List mH}{r:R5}(a:iH l)(c:r.Ok){i:Nat}(j:i+1<l.length):(-959<=(lG l r i).h/\(lG l r i).h<=959)/\(-959<=(lG l r i).b/\(lG l r i).b<=959):=by have k:=a.n;have e:=iA a (show i<l.length by omega);have f:=iA a j;have m:=e.2.1;have o:=f.2.1;have p:=c i O;have q:=c (i+1) O;unfold lG;rw[e.1,f.1];simp only;omega
def HV{l:List mH}{r:R5}(b:iH l)(c:r.Ok){a:Nat}:∀k,a+k<l.length->0<=kG l r a k/\kG l r a k<=k * 1839362
 | 0,_=>by simp[kG]
 | k+1,h=>by have:=HV b c k (a:=a) O;have:=EV (EU b c (i:=a+k) O);rw[kG];omega
def Bu{v:Value}{f:jV}{r:R5}{a k:Nat}{m:List (rV×Int)}(z:gJ H v f)(p:iH f.pt)(q:r.Ok)(B:H rm=some (YR nS m,true))(S:MR m)(U:a+k<f.pt.length) :
  LL.Zb P 355 #[v,.map (some rm),iZ r,vi a,vi ((a+k:Nat):Int)] H λv t=>(∃b,MR b/\t=H.ins rm (YR nS b))/\v=vi (kG f.pt r a k):=by
 have W:=z;obtain⟨I,c1,J,c2,L,c3,rfl,R,h2,h3⟩:=z;have hn:=p.n;refine aU.m (fO Wfg) rfl ?_;unfold JL;refine Y ?_;refine ZC k (λj t=>∃b,MR b/\t=H.ins rm (YR nS b)) (λj=>[(1,.map (some rm)),(4,vi ((a+k:Nat):Int)),(5,vi 0),(7,vi 0),(11,vi (kG f.pt r a j)),(12,vi ((a+j:Nat):Int))]) (λ_=>[(5,[vi f.pk,.slice I f.pt.length c1,.slice J f.tp.length c2,.slice L f.sk.length c3]),(7,r.cells)]) ⟨m,S,y5 B⟩ V V ?_;rintro j _ hj ⟨b,i,rfl⟩;refine OJ (λQ=>?_) (λQ=>?_)
 ·have X:j<k:=O;have c:a+j+1<f.pt.length:=O;have D:=iA p (show a+j<f.pt.length by omega);have F:=iA p c;have p0:=D.2.1;have p1:=F.2.1;have r0:=q (a+j) O;have r1:=q (a+j+1) O;have A:=EU p q c;have C:=HV p q j (a:=a) O;have Z:=EV A;have l:=R.insM (o:=YR nS b) (show 0<3 by decide) B;have e:lG f.pt r (a+j)=⟨f.pt[a+j+1].h-f.pt[a+j].h,max (r.get (a+j)-r.get (a+j+1)) (r.get (a+j+1)-r.get (a+j))⟩:=by unfold lG;rw[D.1,F.1]
  have N:kG f.pt r a (j+1)=kG f.pt r a j+z8 (lG f.pt r (a+j)):=rfl;refine Y ?_;refine ZB (a+j+1) l c λM w=>Y ?_;refine Zh (OL _) rfl (by rw[add_zero];exact YN (cs:=[vi f.pt[a+j+1].h]) (ds:=[vi f.pt[a+j+1].lo,vi f.pt[a+j+1].hi]) w) (Y ?_);refine ZB (a+j) l O λM w=>Y ?_;refine Zh (OL _) rfl (by rw[add_zero];exact YN (cs:=[vi (f.pt[a+j]'O).h]) (ds:=[vi (f.pt[a+j]'O).lo,vi (f.pt[a+j]'O).hi]) w) (Y ?_);refine sV (j:=a+j) rfl rfl O (Y ?_);refine wB (OL _) rfl rfl (mV r (j:=a+j) O) (Y ?_);refine sV (j:=a+j+1) rfl rfl O (Y ?_);refine wB (OL _) rfl rfl (mV r (j:=a+j+1) O) (Y ?_);refine sV (j:=a+j+1) rfl rfl O (Y ?_);refine wB (OL _) rfl rfl (mV r (j:=a+j+1) O) (Y ?_);refine sV (j:=a+j) rfl rfl O (Y ?_);refine wB (OL _) rfl rfl (mV r (j:=a+j) O) (Y ?_);refine yG rfl rfl (Y ?_);refine Zg (vs:=[.map (some rm),nS ⟨f.pt[a+j+1].h-f.pt[a+j].h,max (r.get (a+j)-r.get (a+j+1)) (r.get (a+j+1)-r.get (a+j))⟩]) (Hy (Hp.aQ _ _ _) i (by rw[<-e];exact A)) ?_;rintro v _ ⟨⟨m2,u,rfl⟩,rfl⟩;refine Zz OL ?_;rw[<-e];generalize z8 (lG f.pt r (a+j))=s at *;refine Y ?_;exact⟨⟨j+1,O⟩,gI O,⟨m2,u,Uy⟩,⟨rfl,rfl,rfl,rfl,by rw[N];rfl,rfl,trivial⟩,V,rfl⟩
 have:j=k:=O;subst this;refine Y ?_;exact⟨⟨b,i,rfl⟩,rfl⟩
end
def FL(l:List mH)(r:R5)(t:zI):Bool:=decide (t.lo<=kG l r t.fr.toNat (t.to-t.fr).toNat/\kG l r t.fr.toNat (t.to-t.fr).toNat<=t.hi)
def KC(l:List mH)(r:R5)(k:rN):Bool:=decide (k.lg<=vZ l r k.h) == k.fit
def lF(f:jV)(r:R5):Bool:=f.tp.all (FL f.pt r) && f.sk.all (KC f.pt r)
section
variable{P:fP}[Tz P][Loud P]{H:Hp}
def Bj{v:Value}{f:jV}{r:R5}{m:List (rV×Int)}(hf:gJ H v f)(Q:yI f)(hr:r.Ok)(U:H rm=some (YR nS m,true))(hM:MR m) :
  LL.Zb P 323 #[v,.map (some rm),iZ r] H λv N=>(∃l,MR l/\N=H.ins rm (YR nS l))/\v=vb (lF f r):=by
 have S:=hf;obtain⟨X,c1,L,c2,M,c3,rfl,h1,h2,h3⟩:=hf;have hp:=Q.pt;have hn:=hp.n;refine aU.m (fO Wfh) rfl ?_;unfold JK;have Su:=Q.tp.n;have hns:=Q.sk.n;refine Y ?_;refine ZC f.tp.length (λj N=>(∃l,MR l/\N=H.ins rm (YR nS l))/\(f.tp.take j).all (FL f.pt r)=true) (λj=>[(1,.map (some rm)),(3,vi 0),(5,vi 0),(13,.slice L f.tp.length c2),(14,vi f.tp.length),(15,vi j)]) (λ_=>[(3,[vi f.pk,.slice X f.pt.length c1,.slice L f.tp.length c2,.slice M f.sk.length c3]),(5,r.cells)]) ⟨⟨m,hM,y5 U⟩,by simp⟩ V V ?_;rintro j _ hj ⟨⟨l,C,rfl⟩,z⟩;refine OJ (λg1=>?_) (λg1=>?_)
 ·have w:j<f.tp.length:=O;obtain⟨⟨t1,t2⟩,t3,t4⟩:=Q.tp.t _ (iN w);have F:=ND (f:=FL f.pt r) w;have I:=NC (f:=FL f.pt r) w;refine Y ?_;refine ZB j (h2.insM (o:=YR nS l) (show 0<4 by decide) U) w λa ha=>?_;have J:FL f.pt r f.tp[j]=decide (f.tp[j].lo<=kG f.pt r f.tp[j].fr.toNat (f.tp[j].to-f.tp[j].fr).toNat/\kG f.pt r f.tp[j].fr.toNat (f.tp[j].to-f.tp[j].fr).toNat<=f.tp[j].hi):=rfl;generalize mA:FL f.pt r f.tp[j]=B at *;generalize f.tp[j]=t at *;obtain⟨A,ea⟩:∃A:Nat,t.fr=A:=⟨t.fr.toNat,O⟩;obtain⟨k0,ek⟩:∃k0:Nat,t.to=((A+k0:Nat):Int):=⟨(t.to-t.fr).toNat,O⟩;have e1:t.fr.toNat=A:=O;have e2:(t.to-t.fr).toNat=k0:=O;rw[e1,e2]at J;refine Y ?_;refine YL (cs:=[vi t.fr,vi t.to,vi t.lo,vi t.hi]) ha ?_;rw[ea,ek];refine Y ?_;refine Zg (vs:=[.agg #[vi f.pk,.slice X f.pt.length c1,.slice L f.tp.length c2,.slice M f.sk.length c3],.map (some rm),iZ r,vi A,vi ((A+k0:Nat):Int)]) (Bu (S.insM U) hp hr (Hp.aQ _ _ _) C O) ?_;rintro v _ ⟨⟨m2,R,rfl⟩,rfl⟩;refine Zz OL (Y ?_);refine Zo (vs:=[vi (kG f.pt r A k0),vi t.lo,vi t.hi]) (nQ _ _ _) (Y ?_);rw[Uy];refine OI (λg2=>?_) (λg2=>?_)
  ·refine Y ?_;exact⟨⟨m2,R,rfl⟩,by rw[lF,I (by rw[J];exact qAU g2)];rfl⟩
  refine Y ?_;exact⟨⟨j+1,O⟩,gI O,⟨⟨m2,R,rfl⟩,by rw[F,z,J,decide_eq_true g2];rfl⟩,V,V,rfl⟩
 have D:f.tp.all (FL f.pt r)=true:=by rw[<-z,qAH O]
 refine Y ?_;refine ZC f.sk.length (λj N=>H.ins rm (YR nS l)=N/\(f.sk.take j).all (KC f.pt r)=true) (λj=>[(3,vi 0),(5,vi 0),(38,.slice M f.sk.length c3),(39,vi f.sk.length),(40,vi j)]) (λ_=>[(3,[vi f.pk,.slice X f.pt.length c1,.slice L f.tp.length c2,.slice M f.sk.length c3]),(5,r.cells)]) ⟨rfl,by simp⟩ V V ?_;rintro i _ hi ⟨rfl,e⟩;refine OJ (λg3=>?_) (λg3=>?_)
 ·have u:i<f.sk.length:=O;obtain⟨s1,s2⟩:=Q.sk.s _ (iN u);have F:=ND (f:=KC f.pt r) u;have I:=NC (f:=KC f.pt r) u;refine Y ?_;refine ZB i (h3.insM (o:=YR nS l) (show 0<3 by decide) U) u λa ha=>?_;have J:KC f.pt r f.sk[i]=(decide (f.sk[i].lg<=vZ f.pt r f.sk[i].h) == f.sk[i].fit):=rfl;generalize KC f.pt r f.sk[i]=B at *;generalize f.sk[i]=k at *;refine Y ?_;refine YL (cs:=[vi k.h,vi k.lg,vb k.fit]) ha (Y ?_);refine Zo (vs:=[.agg #[vi f.pk,.slice X f.pt.length c1,.slice L f.tp.length c2,.slice M f.sk.length c3],iZ r,vi k.h]) (NE (S.insM U) hp hr s1) ?_;refine Zz OL (Y ?_);refine Ce rfl rfl (Y ?_);cases hb:(decide (k.lg<=vZ f.pt r k.h) == k.fit)with
  | true=>
   rw[show(decide (k.lg<=vZ f.pt r k.h) != k.fit)=false by rw[bne,hb];rfl];refine Y ?_;exact⟨⟨i+1,O⟩,gI O,⟨rfl,by rw[F,e,J,hb];rfl⟩,V,V,rfl⟩
  | false=>
   rw[show(decide (k.lg<=vZ f.pt r k.h) != k.fit)=true by rw[bne,hb];rfl];refine Y ?_;exact⟨⟨l,C,rfl⟩,by rw[lF,I (by rw[J];exact hb),Bool.and_false];rfl⟩
 have:i=f.sk.length:=O;subst this;rw[qAh]at e;refine Y ?_;exact⟨⟨l,C,rfl⟩,by rw[lF,D,e];rfl⟩
end
def kK{α:Type}(f:Int->List α)(a:Int):Nat->List α
 | 0=>[]
 | c+1=>f (a-c)++kK f a c
def jB(f:jV):Nat->R5->List R5
 | 0,m=>if lF f m then[m]else[]
 | k+1,m=>kK (λv=>jB f k (m.put (f.pt.length-(k+1)) v)) (yL f.pt (f.pt.length-(k+1))).hi ((yL f.pt (f.pt.length-(k+1))).hi-(yL f.pt (f.pt.length-(k+1))).lo+1).toNat
def gT(f:jV):List R5:=jB f f.pt.length ⟨0,0,0,0,0⟩
def kR(x:R5):List Value:=[iZ x]
def nE(a b e c:Nat):Value:=.func (.func 322) #[] #[pt a,pt b,pt e,pt c]
structure J5(G:Hp)(bc:List Value)(rb rl rm ry rn:Nat)(y:Value):Prop where
 b:G rb=some (.cells bc.toArray 221,true)
 l:G rl=some (.cells #[.map (some rm)] 425,true)
 y:G ry=some (.cells #[y] 423,true)
 n:G rn=some (.cells #[nE rb rl ry rn] 426,true)
 m:∃m,MR m/\G rm=some (YR nS m,true)
 d:rm≠rb/\rm≠rl/\rm≠ry/\rm≠rn
def J5.put{a:List Value}{rb c f e:Nat}{y:Value}(h:J5 G a rb c rm f e y){m:List (rV×Int)}(p:MR m):J5 (G.ins rm (YR nS m)) a rb c rm f e y:=by obtain⟨i,j,k,o⟩:=h.d;exact⟨by rw[Hp.aR _ _ (qAo i)];exact h.b,by rw[Hp.aR _ _ (qAo j)];exact h.l,by rw[Hp.aR _ _ (qAo k)];exact h.y,by rw[Hp.aR _ _ (qAo o)];exact h.n,⟨m,p,Hp.aQ _ _ _⟩,h.d⟩
def IW{m:R5}(h:m.Ok){i:Nat}{v:Int}(l:0<=v/\v<=959):(m.put i v).Ok:=by
 intro j f;by_cases k:i<5
 ·rw[Er _ _ f k];split
  ·exact l
  exact h j f
 have:m.put i v=m:=by obtain⟨a,b,c,d,e⟩:=m;simp only[R5.put,iF (show ¬ i=0 by omega),iF (show ¬ i=1 by omega),iF (show ¬ i=2 by omega),iF (show ¬ i=3 by omega),iF (show ¬ i=4 by omega)]
 rw[this];exact h j f
theorem Cj(m:R5)(i:Nat)(v w:Int):(m.put i v).put i w=m.put i w:=by obtain⟨a,b,c,d,e⟩:=m;simp only[R5.put,R5.mk.injEq];refine⟨?_,?_,?_,?_,?_⟩<;>split<;>rfl
section
variable{P:fP}[Tz P][Loud P]
def Dk{f:jV}{D J L:Option Addr}{c1 c2 c3:Nat}{y:Value}{Z:List (List Value)}{I:Nat->Hp->Prop}{S:Hp->Prop}(hF:yI f)(hI:∀n,Up (I n))(hS:Up S)(hN:∀n H,I n H->gJ H (.agg #[vi f.pk,.slice D f.pt.length c1,.slice J f.tp.length c2,.slice L f.sk.length c3]) f)
  (hy:∀n (hn:n<Z.length) H,I n H->Z5 P y (Z[n]).toArray H (λv t=>(v=.bool true/\I (n+1) t)\/(v=.bool false/\S t))) (R rl rm ry rn:Nat) :
  ∀(k:Nat) (m:R5) (rest:List (List Value)) (H G:Hp),k<=f.pt.length->m.Ok->J5 G [vi f.pk,.slice D f.pt.length c1,.slice J f.tp.length c2,.slice L f.sk.length c3] R rl rm ry rn y->JG G (kB Z I ((jB f k m).map kR++rest)) H ->
   LL.Zb P 322 #[iZ m,vi (f.pt.length-k:Nat),pt R,pt rl,pt ry,pt rn] H λv t=>(v=vb true/\∃A,J5 A [vi f.pk,.slice D f.pt.length c1,.slice J f.tp.length c2,.slice L f.sk.length c3] R rl rm ry rn y/\JG A (kB Z I rest) t)\/(v=vb false/\∃A,JG A S t):=by
 have AL:∀rest H,kB Z I rest H->gJ H (.agg #[vi f.pk,.slice D f.pt.length c1,.slice J f.tp.length c2,.slice L f.sk.length c3]) f:=λrest H ⟨p,_,_,h⟩=>hN p H h
 have hp:=hF.pt
 have hn:=hp.n
 have fM:∀{A t c},JG A (kB Z I c) t->dF t (.slice D f.pt.length c1) f.pt:=by intro A t c mF;obtain⟨B1,e1,B2,e2,B3,e3,e,hh,_⟩:=AL _ _ (mF.up (BL hI));simp only[Value.agg.injEq,qDn,qBg,Value.slice.injEq,qCw,qEa]at e;obtain⟨⟨rfl,rfl⟩,_⟩:=e;exact hh
 intro k
 induction k with
 | zero=>
  intro m rest H G hk hm M u;rw[jB]at u;refine aU.m (fO NH) rfl ?_;unfold y9;refine Y ?_;refine Zh (OL _) rfl (by rw[add_zero];exact YN (ds:=[.slice J f.tp.length c2,.slice L f.sk.length c3]) (mG (ZM (u.inc _ _ M.b)) rfl)) ?_;refine OJ (λh1=>?_) (λh1=>?_);rotate_left
  ·exact absurd O h1
  refine Y ?_;refine Zn (cs:=[vi f.pk,.slice D f.pt.length c1,.slice J f.tp.length c2,.slice L f.sk.length c3]) (OL _) rfl (ZM (u.inc _ _ M.b)) rfl (Y ?_);refine Zh (OL _) rfl (ZM (cs:=[.map (some rm)]) (u.inc _ _ M.l)) (Y ?_);obtain⟨m0,hM0,hm0⟩:=M.m;refine Zg (Bj (AL _ _ (u.up (BL hI))) hF hm (u.inc _ _ hm0) hM0) ?_;rintro v _ ⟨⟨m',hM',rfl⟩,rfl⟩;have C:=u.put (YR nS m') hm0;have SO:=M.put hM';cases hr:lF f m with
  | false=>
   rw[hr]at C;refine Y ?_;exact .inl ⟨rfl,_,SO,C⟩
  | true=>
   rw[hr]at C;refine Y ?_;refine Zh (OL _) rfl (ZM (cs:=[y]) (C.inc _ _ SO.y)) (Y ?_);refine ZP (vs:=[iZ m]) rfl rfl (JG.call (λH h=>kB.call (S:=S) hy h) C) ?_;rintro v H7 ⟨Hc,F,rfl,q1,q2,(⟨rfl,q3⟩ | ⟨rfl,q3⟩)⟩
   ·refine Y ?_;exact .inl ⟨rfl,_,SO,Hc,F,rfl,q1,q2,q3⟩
   refine Y ?_;exact .inr ⟨rfl,_,Hc,F,rfl,q1,q2,q3⟩
 | succ k ih=>
  intro m rest H G hk hm M u;rw[jB]at u;have N:f.pt.length-(k+1)<f.pt.length:=O;have KY:((f.pt.length-(k+1):Nat):Int)+1=(f.pt.length-k:Nat):=O;generalize f.pt.length-(k+1)=i at *;have hi5:i<5:=O;obtain⟨FZ,p1,p2,p3⟩:=iA hp N;rw[FZ]at u;refine aU.m (fO NH) rfl ?_;unfold y9;have cb:∀{A t c},J5 A [vi f.pk,.slice D f.pt.length c1,.slice J f.tp.length c2,.slice L f.sk.length c3] R rl rm ry rn y->JG A (kB Z I c) t->aM t ((((⟨R,0,none⟩:Addr).add 0)).add 1) [.slice D f.pt.length c1]:=by intro A t c hf' mF;rw[add_zero];exact YN (ds:=[.slice J f.tp.length c2,.slice L f.sk.length c3]) (mG (ZM (mF.inc _ _ hf'.b)) rfl)
  refine Y ?_;refine Zh (OL _) rfl (cb M u) ?_;refine OJ (λh1=>?_) (λh1=>?_)
  ·exact absurd h1 O
  refine Y ?_;refine Zh (OL _) rfl (cb M u) (Y ?_);refine ZB i (fM u) N λa ha=>Y ?_;refine Zh (OL _) rfl (by rw[add_zero];exact YN (cs:=[vi f.pt[i].lo]) (ds:=[vi f.pt[i].hi]) (mG ha rfl)) (Y ?_);generalize rA:(f.pt[i].hi-f.pt[i].lo+1).toNat=z at u;refine Yp (α:=R5×Hp) z (λq s t=>J5 s.2 [vi f.pk,.slice D f.pt.length c1,.slice J f.tp.length c2,.slice L f.sk.length c3] R rl rm ry rn y/\(∀v,s.1.put i v=m.put i v)/\s.1.Ok /\
    JG s.2 (kB Z I ((kK (λv=>jB f k (m.put i v)) f.pt[i].hi (z-q)).map kR++rest)) t)
   (λq s=>[(1,vi i),(2,pt R),(3,pt rl),(4,pt ry),(5,pt rn),(6,vi 0),(8,vb false),(9,vi (f.pt[i].lo+q))]) (λ_ s=>[(6,s.1.cells)]) (m,G) ⟨M,λ_=>rfl,hm,u⟩ ⟨rfl,rfl,rfl,rfl,rfl,rfl,rfl,by simp[fG.set],trivial⟩ V ?_
  rintro q ⟨m',G3⟩ H3 hq ⟨B,Q,Tc,o⟩;simp only at B Q Tc o;refine Y ?_;refine Zh (OL _) rfl (cb B o) (Y ?_);refine ZB i (fM o) N λa ha=>Y ?_;refine Zh (OL _) rfl (mG (cs:=[vi f.pt[i].lo,vi f.pt[i].hi]) (mG ha rfl) rfl) ?_;refine OJ (λh2=>?_) (λh2=>?_)
  ·refine Y ?_;refine sV (j:=i) rfl rfl hi5 (Y ?_);refine EL (OL _) rfl rfl rfl rfl (by show 0+i * 1+1<=5;omega) rfl ?_;have Rz:ZR m'.cells (0+i * 1) [vi (f.pt[i].lo+q)]=(m.put i (f.pt[i].lo+q)).cells:=by rw[Es _ _ hi5,Q]
   have e5:ZR m'.cells (0+i * 1) (Value.cells (vi (f.pt[i].lo+q))).toList=(m.put i (f.pt[i].lo+q)).cells:=Rz;rw[e5];have N0:(m.put i (f.pt[i].lo+q)).Ok:=IW hm ⟨O,O⟩;have e6:z-q=(z-(q+1))+1:=O;have e7:f.pt[i].hi-((z-(q+1):Nat):Int)=f.pt[i].lo+q:=O;rw[e6,kK,qBt,qAE,e7]at o;refine Y ?_;refine Zh (OL _) rfl (ZM (cs:=[nE R rl ry rn]) (o.inc _ _ B.n)) (Y ?_);rw[KY];refine ZP (vs:=[iZ (m.put i (f.pt[i].lo+q)),vi (f.pt.length-k:Nat)]) rfl rfl (Yv U (ih (m.put i (f.pt[i].lo+q)) _ H3 G3 O N0 B o)) ?_;rintro v H5 (⟨rfl,G5,hf5,To⟩ | ⟨rfl,G5,To⟩)
   ·refine Y ?_;refine⟨(⟨q+1,O⟩,(m.put i (f.pt[i].lo+q),G5)),gI O,⟨hf5,λv=>Cj _ _ _ _,N0,To⟩,⟨rfl,rfl,rfl,rfl,rfl,rfl,rfl,?_,trivial⟩,V,rfl⟩;show some (vi (f.pt[i].lo+q+1))=some (vi (f.pt[i].lo+(q+1:Nat)));congr 2;omega
   refine Y ?_;exact .inr ⟨rfl,G5,To⟩
  have e6:z-q=0:=O;rw[e6,kK,qBM,qAt]at o;refine Y ?_;exact .inl ⟨rfl,G3,B,o⟩
end
def E6:Yw Tryz.prog 425=some (1,some (.map none),8):=U
def E7:Yw Tryz.prog 426=some (1,some .nilFunc,8):=U
def E5:Yw Tryz.prog 222=some (1,some (.slice none 0 0),24):=U
def FA:Tryz.prog.underlying 222=some (.slice 232):=U
def yE:Yw Tryz.prog 232=some (5,some (.agg #[vi 0,vi 0,vi 0,vi 0,vi 0]),40):=U
def qW{a b:Nat}{x:Obj×Bool}(c:G a=some x)(hb:G b=none):a≠b:=by rintro rfl;rw[c]at hb;simp at hb
def CK:(⟨0,0,0,0,0⟩:R5).Ok:=by
 intro j a;match j,a with
 | 0,_ | 1,_ | 2,_ | 3,_ | 4,_=>exact⟨by decide,by decide⟩
def Cf(l:List R5):((Zd l).all Value.gM)=true:=sU (λ_=>rfl) l
def EX{f:Int->List R5}{hi:Int}{B:Nat}(h:∀v,(f v).length<=B):∀c,(kK f hi c).length<=c * B
 | 0=>by simp[kK]
 | c+1=>by rw[kK,IN,qBx];have:=EX h c (hi:=hi);have:=h (hi-c);omega
def ER{f:jV}(a:iH f.pt):∀k m,k<=f.pt.length->(jB f k m).length<=3 ^ k
 | 0,m,_=>by rw[jB];split<;>simp
 | k+1,m,i=>by obtain⟨e,j,l,n⟩:=iA a (show f.pt.length-(k+1)<f.pt.length by omega);rw[jB,e];have:=EX (f:=λv=>jB f k (m.put (f.pt.length-(k+1)) v)) (hi:=(f.pt[f.pt.length-(k+1)]'O).hi) (λv=>ER a k (m.put (f.pt.length-(k+1)) v) O) ((f.pt[f.pt.length-(k+1)]'O).hi-(f.pt[f.pt.length-(k+1)]'O).lo+1).toNat;have b:((f.pt[f.pt.length-(k+1)]'O).hi-(f.pt[f.pt.length-(k+1)]'O).lo+1).toNat<=3:=O;have h:=qAV (3 ^ k) b;rw[qCC,qDT (3 ^ k) 3];omega
def EP{f:jV}(a:iH f.pt):(gT f).length<=243:=by have h:=ER a f.pt.length ⟨0,0,0,0,0⟩ (DO _);have b:3 ^ f.pt.length<=3 ^ 5:=qAR (by decide) a.n.2;exact qAP h b
section
variable{P:fP}[Tz P][Loud P]
def Bm{f:jV}{A1 A2 A3:Option Addr}{c1 c2 c3:Nat}(hF:yI f) :
  yW P (.func (.func 256) #[.agg #[vi f.pk,.slice A1 f.pt.length c1,.slice A2 f.tp.length c2,.slice A3 f.sk.length c3]] #[]) (λH=>gJ H (.agg #[vi f.pk,.slice A1 f.pt.length c1,.slice A2 f.tp.length c2,.slice A3 f.sk.length c3]) f) ((gT f).map kR):=by
 rintro y I S H ⟨yf,ya,yb,hyv⟩ hI hS hN hy Z;have Jd:y.cells=#[y]:=by rw[hyv];rfl
 refine Yv U ?_;refine aU.m (fO Wfm) (args:=[.agg #[vi f.pk,.slice A1 f.pt.length c1,.slice A2 f.tp.length c2,.slice A3 f.sk.length c3],y]) rfl ?_;unfold JF;generalize hxs:(gT f).map kR=u at *;have KV:JG .nil (kB u I ((gT f).map kR++[])) H:=⟨H,.nil,(Hp.hZ H).symm,Hp.iJ H,λb x h=>by simp[Hp.nil]at h,by rw[qAl,hxs];exact .start Z⟩;refine Y ?_;refine Ug rfl (OL _) λe Sg=>?_;obtain⟨G1,g1b,Q⟩:∃G1:Hp,G1 e=some (.cells [vi f.pk,.slice A1 f.pt.length c1,.slice A2 f.tp.length c2,.slice A3 f.sk.length c3].toArray 221,true)/\JG G1 (kB u I ((gT f).map kR++[])) (H.ins e (.cells (Value.agg #[vi f.pk,.slice A1 f.pt.length c1,.slice A2 f.tp.length c2,.slice A3 f.sk.length c3]).cells 221)):=⟨_,Hp.aQ _ _ _,KV.new _ Sg⟩;generalize H.ins e (.cells (Value.agg #[vi f.pk,.slice A1 f.pt.length c1,.slice A2 f.tp.length c2,.slice A3 f.sk.length c3]).cells 221)=H1 at *;refine Y ?_;refine Ug rfl (OL _) λl X=>?_;have hG1:=YP Q.inc X;obtain⟨w,i2,D,R⟩:∃w:Hp,fI G1 w/\w l=some (.cells #[y] 423,true)/\JG w (kB u I ((gT f).map kR++[])) (H1.ins l (.cells y.cells 423)):=⟨_,Zt hG1,by rw[<-Jd];exact Hp.aQ _ _ _,Q.new _ X⟩;generalize H1.ins l (.cells y.cells 423)=H2 at *;have C:=i2 _ _ g1b;refine Y ?_;refine Ztg (kv:=nS) (OL _) λrm V=>?_;have q:=YP R.inc V;obtain⟨z,i3,J,s⟩:∃z:Hp,fI w z/\z rm=some (YR nS [],true)/\JG z (kB u I ((gT f).map kR++[])) (H2.ins rm (YR nS [])):=⟨_,Zt q,Hp.aQ _ _ _,R.new _ V⟩;generalize H2.ins rm (YR nS [])=H3 at *;have nmb:=qW C q;have nmy:=qW D q;have F:=i3 _ _ C;have L:=i3 _ _ D;refine Y ?_;refine VY (fT E6) (OL _) λi t=>?_;have n:=YP s.inc t;have hj4:=s.new (.cells (Value.map none).cells 425) t;have nlm:=qW J n;have nlb:=qW F n;have nly:=qW L n;refine Y ?_;refine VV (v:=.map (some rm)) (fT E6) rfl rfl (Hp.aQ _ _ _) rfl rfl (OL _) ?_;rw[Uy];have o:=s.new (.cells #[.map (some rm)] 425) t;obtain⟨A,i5,g5l,o⟩:∃A:Hp,fI z A/\A i=some (.cells #[.map (some rm)] 425,true)/\JG A (kB u I ((gT f).map kR++[])) (H3.ins i (.cells #[.map (some rm)] 425)):=⟨_,Zt n,Hp.aQ _ _ _,o⟩;generalize H3.ins i (.cells #[.map (some rm)] 425)=H5 at *;have M:=i5 _ _ J;have g5b:=i5 _ _ F;have g5y:=i5 _ _ L;refine Y ?_;refine VY (fT E7) (OL _) λj W=>?_;have O:=YP o.inc W;have nnm:=qW M O;refine Y ?_;refine VW rfl rfl (Y ?_);refine VV (v:=nE e i l j) (fT E7) rfl rfl (Hp.aQ _ _ _) rfl rfl (OL _) ?_;rw[Uy];have p:=o.new (.cells #[nE e i l j] 426) W;obtain⟨B,i6,N,p⟩:∃B:Hp,fI A B/\B j=some (.cells #[nE e i l j] 426,true)/\JG B (kB u I ((gT f).map kR++[])) (H5.ins j (.cells #[nE e i l j] 426)):=⟨_,Zt O,Hp.aQ _ _ _,p⟩;generalize H5.ins j (.cells #[nE e i l j] 426)=H6 at *;have hf:J5 B [vi f.pk,.slice A1 f.pt.length c1,.slice A2 f.tp.length c2,.slice A3 f.sk.length c3] e i rm l j y:=
  ⟨i6 _ _ g5b,i6 _ _ g5l,i6 _ _ g5y,N,⟨[],λk h=>absurd rfl h,i6 _ _ M⟩,⟨qAo nmb,nlm,qAo nmy,nnm⟩⟩
 refine Y ?_;refine Zh (OL _) rfl (ZM (cs:=[nE e i l j]) (p.inc _ _ N)) (Y ?_);have c:=Dk hF hI hS hN hy e i rm l j f.pt.length ⟨0,0,0,0,0⟩ [] _ _ (DO _) CK hf p;rw[qCf]at c;refine ZP (vs:=[iZ ⟨0,0,0,0,0⟩,vi 0]) rfl rfl (Yv U c) ?_;rintro v H7 (⟨rfl,G7,_,h7⟩ | ⟨rfl,G7,h7⟩)
 ·refine Y ?_;exact .inl (h7.up (BL hI)).stop
 refine Y ?_;exact .inr (h7.up hS)
theorem Hr{l:List R5}{n:Nat}(a:n<(l.map kR).length):(l.map kR)[n]=[iZ (l[n]'(by simpa using a))]:=by rw[qBn];rfl
def Db{H:Hp}{v:Value}{f:jV}(hf:gJ H v f)(hF:yI f):LL.Zb P 187 #[v] H λv b=>fI H b/\∃i,gL H b 232 v (gT f) i:=by
 have S:=hf;have pD:=EP hF.pt;obtain⟨A1,c1,A2,c2,A3,c3,rfl,h1,h2,h3⟩:=hf;refine aU.m (fO Wft) rfl ?_;unfold I8;refine Y ?_;refine Ug rfl (OL _) λr1 V=>?_;have i1:=Zt (o:=.cells (Value.agg #[vi f.pk,.slice A1 f.pt.length c1,.slice A2 f.tp.length c2,.slice A3 f.sk.length c3]).cells 221) V;have b1:aM (H.ins r1 (.cells (Value.agg #[vi f.pk,.slice A1 f.pt.length c1,.slice A2 f.tp.length c2,.slice A3 f.sk.length c3]).cells 221)) ⟨r1,0,none⟩ [vi f.pk,.slice A1 f.pt.length c1,.slice A2 f.tp.length c2,.slice A3 f.sk.length c3]:=VR;generalize H.ins r1 (.cells (Value.agg #[vi f.pk,.slice A1 f.pt.length c1,.slice A2 f.tp.length c2,.slice A3 f.sk.length c3]).cells 221)=H1 at *;refine Y ?_;refine VY (fT E5) (OL _) λA s=>?_;have h0:H A=none:=YP i1 s;refine Y ?_;refine Zn (OL _) rfl (b1.inc (Zt s)) rfl (Y ?_);refine VW rfl rfl (Y ?_);refine L9 OL rfl (Bm (A1:=A1) (A2:=A2) (A3:=A3) (c1:=c1) (c2:=c2) (c3:=c3) hF) (λx hx=>by obtain⟨k,_,rfl⟩:=qAy.1 hx;rfl)
  (λn b=>fI H b/\∃v i,b A=some (.cells #[v] 222,true)/\gL H b 232 v ((gT f).take n) i/\i≠some A) (λe b=>False) ⟨i1.trans (Zt s),_,none,Hp.aQ _ _ _,.nil _ _ _,by simp⟩
  (λn b J R ⟨B,v,i,C,w,D⟩=>⟨B.trans (Um _ _),v,i,Hp.eN C,w.inc (Um _ _),D⟩) (λe b J R h=>h) (λn b h=>S.inc h.1) ?_ ?_ ?_
 ·rintro n U M ⟨B,v,i,C,w,D⟩;rw[Hr U];rw[qAd]at U;have u:(gT f).take (n+1)=(gT f).take n++[(gT f)[n]]:=by rw[BY U]
  generalize(gT f)[n]=x at *;refine Y ?_;refine VY (fT yE) (OL _) λr5 t=>Y ?_;refine yU (v:=iZ x) (fT yE) (cs:=[vi 0,vi 0,vi 0,vi 0,vi 0]) rfl rfl (Hp.aQ _ _ _) rfl rfl rfl (OL _) ?_;rw[Uy];have N:=B.trans (Zt (o:=.cells (iZ x).cells 232) t);have p:=Zt (o:=.cells (iZ x).cells 232) t _ _ C;have Q:=w.ins (o:=.cells (iZ x).cells 232) t;have c5:aM (M.ins r5 (.cells (iZ x).cells 232)) ⟨r5,0,none⟩ x.cells:=VR;generalize M.ins r5 (.cells (iZ x).cells 232)=H4 at *;refine Y ?_;refine Zh (OL _) rfl (ZM (cs:=[v]) p) (Y ?_);refine YL c5 (Y ?_);refine Z4 (cs:=x.cells) (OL _) rfl λr6 j=>Y ?_;refine VX (l':=[x]) (fU FA) (fU FA) (fT yE) rfl (by decide) (N.trans (Zt j)) (Q.ins j) (Z3 (l:=[x])) (Cf _) (by simp;omega) O rfl rfl (OL _) λL H6 b' k1 X k3=>?_;have g6:H6 A=some (.cells #[v] 222,true):=k3.keep A _ (Zt j _ _ p) (λe=>D e);have I:L.cells=#[L]/\Value.gM L=true:=by obtain⟨_,⟨e,_⟩ | ⟨_,_,_,_,e,_⟩⟩:=X.own<;>(subst e;exact⟨rfl,rfl⟩)
  have F:b'≠some A:=by
   rcases k3.new with rfl | ⟨q,rfl,hq⟩
   ·exact D
   rintro e;obtain rfl:=aT e;rw[Zt j _ _ p]at hq;simp at hq
  refine Y ?_;refine VV (v:=L) (fT E5) rfl rfl g6 I.1 I.2 (OL _) (Y ?_);refine⟨qC k1 h0,L,b',Hp.aQ _ _ _,?_,F⟩;rw[u];refine⟨X.own.sub λc z e R=>?_,X.fresh⟩;rw[Hp.aR _ _ (by rintro rfl;exact F e)];exact R
 ·rintro M ⟨B,v,i,C,w,D⟩;rw[qAd,qAh]at w;refine Y ?_;refine Zh (OL _) rfl (ZM (cs:=[v]) C) (Y ?_);exact⟨B,i,w⟩
 rintro e M he h;exact h.elim
end
