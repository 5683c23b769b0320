import Derived.Test.YtmfealhfgccmfaaGreatDoorP27
import Derived.Test.YtmfealhfgccmfaaGreatDoorP32
set_option linter.all false
set_option maxHeartbeats 8000000
set_option maxRecDepth 20000
def gq8{G:Prop}(h:G:=by
  refine Y ?_;refine ZP (vs:=[v5]) rfl rfl (key H5 v5 b5 Qh k2) ?_;rintro w H6 (⟨rfl,Tn⟩ | ⟨rfl,Tn⟩)
  ·refine Y ?_;exact⟨⟨i+1,O⟩,gI O,Tn,V,trivial,rfl⟩
  refine Y ?_;exact .inr ⟨rfl,Tn.of (λ_ h=>h) Ka⟩):G:=h
def T8{G:Prop}(h:G:=by refine Y ?_;refine VX (l':=[(i:Int)]) (fU jR) (fU jR) (fT t3) rfl (by decide) KD.inc o4 KB rfl (by simp only[qAF,List.length_nil];omega) O rfl rfl (OL _) λv5 H5 b5 k1 k2 k3=>?_;have Qh:H2.Sub H5:=⟨k1,k3.gh.trans KD.gh⟩;refine Y ?_;refine Zh (OL _) rfl (cn Qh) ?_;exact gq8):G:=h
def T2{G:Prop}(h:G:=by refine Y ?_;refine VX (l':=[(i:Int)]) (fU jR) (fU jR) (fT t3) rfl (by decide) KD.inc o4 KB rfl (by simp only[qAF,List.length_nil];omega) O rfl rfl (OL _) λv5 H5 b5 k1 k2 k3=>?_;have Qh:H2.Sub H5:=⟨k1,k3.gh.trans KD.gh⟩;exact gq8):G:=h
section
open Go Go.LL
namespace Go.LL
section
open Go.Conc (rcase scase recvd)
variable{T E:TypeId}{WX:ChanDir}{sz gQ ch n:Nat}{zv v:Value}{ρ:Operand->Value}{ts:Array TypeId}
section
variable{P:fP}{d:Option Nat}{next:fG->Hp->Prop}{σ:fG}{H:Hp}{x y:Operand}{ty:TypeId}
def Zth(g:P.toProgram.underlying T=some (.chan WX E))(t:TI P.toProgram E sz zv gQ)(a:P.still H.gh=false)(h:∀r,H r=none->next (σ.set d (.chan (some r))) (H.ins r (.chan 0 #[] false 0 0 false))) :
  (fR.raw (.makeChan T (.const (.int .i64 0))) ty).m P d next σ H:=by
 obtain⟨q,k,u,w,o⟩:=t.ex;refine YX (by simp[Op.operands,fG.get]) (s:=Instr.makeChan T (.int .i64 0)) (by simp[execOp,fL,fG.get]) ?_;have j:IntKind.i64.wrap (0:Int)=0:=by decide
 have e:¬ ((0:Int)<0\/(0:Int) > IntKind.i64.max\/((gQ:Nat):Int) * 0 > 2 ^ 48-112):=by rw[Int.mul_zero];decide
 simp only[Instr.makeChan,Zf,ZA g,asInt,asIntOf,Zj,UL k,o,j];simp only[e,qAq,Int.toNat_zero,newObj,Zf,Zj];exact⟨a,λr f=>h r f⟩
def ZpF{p:Program}(f:p.underlying T=some (.chan WX E))(m:TI p E sz zv gQ)(g:ρ x=.chan (some ch)){a:Bool}(w:World) :
  (execOp ρ (fL (.recv T x a) ty)).runT p w #[]=(.ok (.comm #[rcase ch zv] true (.recv a)) w,#[]):=by
 obtain⟨k,h,o,j,q⟩:=m.ex;have e:execOp ρ (fL (.recv T x a) ty)=(do
  let .chan _ elem <-underlying T | stuck "receive: channel type expected"
  pure (.comm #[{ chan:=ρ x,send:=none,zero:=<-zeroValue elem }] true (.recv a)):Sem Next):=rfl
 rw[e,Sem.runT_eq];simp[underlying,zeroValue,typeInfo,f,h,j,g,rcase,Result.andThen,Result.evThen,Sem.run_bind,Sem.events_bind,run_program,events_program]
theorem ZpE{p:Program}(a:ρ x=.chan (some ch))(f:ρ y=v)(w:World) :
  (execOp ρ (fL (.send x y) ty)).runT p w #[]=(.ok (.comm #[scase ch v (.tuple #[])] true .send) w,#[]):=by
 have e:execOp ρ (fL (.send x y) ty)=(pure (.comm #[{ chan:=ρ x,send:=some (ρ y),zero:=.tuple #[] }] true .send):Sem Next):=by simp[execOp,fL]
 rw[e,a,f];rfl
def ZpG{p:Program}(q:ρ x=.chan (some ch))(w:World)(g:w.heap[ch]? = some (.chan 0 #[] false n n false)) :
  (execOp ρ (fL (.call { callee:=.builtin .close,args:=#[x],argTypes:=ts }) ty)).runT p w #[]=(.ok (.value (.tuple #[])) { w with heap:=w.heap.setIfInBounds ch (.chan 0 #[] true n n false) },#[⟨.obj ch,false,true⟩,⟨.obj ch,true,true⟩]):=by
 have e:execOp ρ (fL (.call { callee:=.builtin .close,args:=#[x],argTypes:=ts }) ty)=(do let v <-Builtin.close_ ts ty #[.chan (some ch)];pure (.value v):Sem Next):=by simp[execOp,fL,resolve,invoke,builtin,q]
 rw[e];have f:ch<w.heap.size:=by
  rcases qBh ch w.heap.size with h | h
  ·exact h
  rw[qCI h]at g;simp at g
 have o:w.heap[ch]=.chan 0 #[] false n n false:=by rw[qBc f]at g;exact aT g
 have m:Builtin.close_ ts ty #[.chan (some ch)]=(do
  let .chan room k closed j a timer <-getObj ch | stuck "close: no channel in this block"
  if closed then runtimePanic (.plain "close of closed channel")
  setObj ch (.chan room k true j a timer)
  pure (.tuple #[])):=rfl
 rw[m];simp[- Sem.runT_eq,getObj,setObj,Sem.runT,bind,Sem.bind,pure,g,f,o];exact⟨rfl,rfl⟩
end
section
variable{p:Program}{c:Cx}{i:Nat}{d:Option Nat}{next:fG->Hp->Prop}{σ:fG}{H:Hp}{x y:Operand}{ty:TypeId}
def Zte(o:p.underlying T=some (.chan WX E))(q:TI p E sz zv gQ)(k:(H.cg=[1]/\c.need H.hd=false)\/H.cg=[19])(e:σ.get x=some (.chan (some c.ch)))
  (g:∀m v a,a.gh=[]->H.Dis a->1<=m->m<=c.N->H.hd<m->c.msg m v a->next (σ.set d (.tuple #[v,.bool true])) ((H.join a).tagged ((m+1) :: [1])))
  (j:next (σ.set d (.tuple #[zv,.bool false])) (H.tagged [1,19,1])):(fR.raw (.recv T x true) ty).m ((fX p c).prgW i) d next σ H:=
 Zfa (Post:=λv f=>next (σ.set d v) f) (by simp[Op.operands,e]) (ZoY (z:=zv) (BE:=true) k (λw n r _=>ZpF o q (by simp[e]) w) g j) λv f h=>h
def Ztc{r:Nat}{a e:Hp}(q:a.gh=(r+3) :: [30,c.K])(o:a.Comp e)(f:e.gh=[])(s:c.msg (c.N-r) v e)(j:σ.get x=some (.chan (some c.ch)))(k:σ.get y=some v)
  (t:next (σ.set d undef) (a.tagged ((r+2) :: [30,c.K]))):(fR.raw (.send x y) ty).m (fX p c).prgM d next σ (a.join e):=
 Zfa (Post:=λv g=>next (σ.set d v) g) (by simp[Op.operands,j,k]) (ZoX q o f s (λw n _=>ZpE (by simp[j]) (by simp[k]) w) t) λv g h=>h
def ZtA(ok:c.Ok)(f:H.gh=[2,30,n])(e:σ.get x=some (.chan (some c.ch)))(g:next (σ.set d (.tuple #[])) (H.tagged [1,30,n])) :
  (fR.raw (.call { callee:=.builtin .close,args:=#[x],argTypes:=ts }) ty).m (fX p c).prgM d next σ H:=
 Zfa (Post:=λv a=>next (σ.set d v) a) (by simp[Op.operands,Call.operands,e]) (Zuv ok f (λw n j=>ZpG (by simp[e]) w j) g) λv a h=>h
end
end
end Go.LL
end
section
open Go Go.LL
namespace Go.Proofs
section
variable{α:Type}{I:Nat->Hp->Prop}{y v:Value}{xs:List (List Int)}{S:Hp->Prop}{Hv G:Hp}{b:Sb}{E1 E2 E3:TypeId}
def ZgO:Yw Tryz.prog 395=some (1,some .nilFunc,8):=U
def UR(n:Nat):Nat->List Int->List (List Int)
 | 0,l=>[l]
 | r+1,l=>(List.range n).flatMap λ(i:Nat)=>if l.any (λz=>(i:Int) == z)then[]else UR n r (l++[(i:Int)])
def Zu(n:Nat):List (List Int):=UR n n []
def UJ(l:List Int)(v:Value)(Hv:Hp):Prop:=∃A c,v=.slice A l.length c/\l.length<=c/\dF Hv v l/\(∀x y,Hv x=some y->y.2=true)/\(l≠[]->∃r rest,A=some ⟨r,0,none⟩/\Hv r=some (.cells (Zd l++rest).toArray 3 (0,0),true))
def Uq(xs:List α)(I:Nat->Hp->Prop)(rest:List α)(H:Hp):Prop:=∃p,p+rest.length=xs.length/\xs.drop p=rest/\I p H
def Uq.start{xs:List α}{H:Hp}(h:I 0 H):Uq xs I xs H:=⟨0,by simp,rfl,h⟩
def Uq.stop{xs:List α}{H:Hp}(h:Uq xs I [] H):I xs.length H:=by obtain⟨p,a,_,e⟩:=h;simp at a;rw[<-a];exact e
def ZnZ{xs rest:List α}(g:∀n,Up (I n)):Up (Uq xs I rest):=by rintro H J h ⟨p,a,e,f⟩;exact⟨p,a,e,g p H J h f⟩
def Zga(P:fP)(y:Value)(xs:List (List Int))(I:Nat->Hp->Prop)(S:Hp->Prop):Prop:=
 ∀n (e:n<xs.length) v Hv H,UJ xs[n] v Hv->Hv.gh=[]->H.Comp Hv->I n H->Z5 P y #[v] (H.join Hv) (λw a=>(w=.bool true/\I (n+1) a)\/(w=.bool false/\S a))
def Uq.call{P:fP}{x:List Int}{r:List (List Int)}{H:Hp}(u:Zga P y xs I S)(h:Uq xs I (x :: r) H)(t:UJ x v Hv)(s:Hv.gh=[])(q:H.Comp Hv) :
  Z5 P y #[v] (H.join Hv) (λw f=>(w=.bool true/\Uq xs I r f)\/(w=.bool false/\S f)):=by
 obtain⟨p,g,m,o⟩:=h;have a:p<xs.length:=by simp at g;omega
 have e:=qCv a;rw[m]at e;have j:x=xs[p]:=by injection e
 have k:xs.drop (p+1)=r:=by injection e with _ e;exact e.symm
 subst j;refine(u p a v Hv H t s q o).mono ?_;rintro w f (⟨rfl,h⟩ | ⟨rfl,h⟩)
 ·exact .inl ⟨rfl,p+1,by simp at g;omega,k,h⟩
 exact .inr ⟨rfl,h⟩
def JG.add{A:Hp->Prop}{H:Hp}(h:JG G A H)(e:H.Comp Hv):JG (G.join Hv) A (H.join Hv):=by
 obtain⟨f,F,rfl,a,g,j⟩:=h;have c1:F.Comp Hv:=Hp.Comp.gS a e;refine⟨f,F.join Hv,Hp.gV _ _ _,a.join_r e.gP,λb x hb=>?_,j⟩;cases hg:G b with
 | some y=>rw[Hp.eN hg]at hb;obtain rfl:=aT hb;exact Hp.eN (g _ _ hg)
 | none=>
  have:Hv b=some x:=by simpa[Hp.fW,hg]using hb
  exact Hp.fS c1 this
theorem Zvr[Enc α]{f H:Hp}{E:TypeId}{l:List α}{b:Option Nat}(k:f.Sub H)(o:gL f H E v l b):∃g Hv:Hp,H=g.join Hv/\g.Comp Hv/\Hv.gh=[]/\f.Sub g/\∃A c,v=.slice A l.length c/\l.length<=c/\dF Hv v l/\(∀x y,Hv x=some y->y.2=true)/\(l≠[]->∃r rest,A=some ⟨r,0,none⟩/\Hv r=some (.cells (Zd l++rest).toArray E (0,0),true)):=by
 obtain⟨B,⟨rfl,t,m⟩ | ⟨r,cap,rest,rfl,rfl,m,C,u⟩⟩:=id o.own
 ·have w:l=[]:=qAr t;subst w;exact⟨H,.nil,(Hp.hZ H).symm,Hp.iJ H,rfl,k,none,0,rfl,DO _,⟨none,0,rfl,λh=>absurd rfl h⟩,λx y h=>by simp[Hp.nil]at h,λh=>absurd rfl h⟩
 have z:=o.fresh r rfl;refine⟨⟨λq=>if q=r then none else H q,H.gh⟩,Hp.nil.ins r (.cells (Zd l++rest).toArray E),Hp.ext' (λq=>?_) ?_,⟨λq x y a s=>?_,.inr rfl⟩,rfl,⟨λq x j=>?_,k.gh⟩,_,cap,rfl,u,⟨_,cap,rfl,λ_=>⟨_,rfl,YN (ZM (Hp.aQ _ _ _))⟩⟩,λx y h=>?_,λ_=>⟨r,rest,rfl,Hp.aQ _ _ _⟩⟩
 ·simp only[Hp.fW,Hp.iG];show H q=match (if q=r then none else H q)with | some x=>some x | none=>if q=r then _ else none
  by_cases e:q=r
  ·subst e;simp[m]
  simp only[e,qAq];cases H q<;>rfl
 ·rw[Hp.gB];simp[Hp.ins,Hp.nil]
 ·have a:(if q=r then none else H q)=some x:=a;by_cases e:q=r
  ·rw[qAa e]at a;simp at a
  rw[Hp.aR _ _ e]at s;simp[Hp.nil]at s
 ·show(if q=r then none else H q)=some x;rw[iF (by rintro rfl;rw[z]at j;simp at j)];exact k.mem _ _ j
 by_cases e:x=r
 ·subst e;rw[Hp.aQ]at h;obtain rfl:=aT h;rfl
 rw[Hp.aR _ _ e]at h;simp[Hp.nil]at h
def QL(a f e:Nat):Value:=.func (.func 282) #[] #[pt a,pt f,pt e]
structure XC(G:Hp)(bc:List Value)(rb rn ry:Nat)(y:Value)(E1 E2 E3:TypeId):Prop where
 b:G rb=some (.cells bc.toArray E1,true)
 n:G rn=some (.cells #[QL rb ry rn] E2,true)
 y:G ry=some (.cells #[y] E3,true)
def XC.inc{e:Hp}{f:List Value}{rb g j:Nat}(h:XC G f rb g j y E1 E2 E3)(a:fI G e):XC e f rb g j y E1 E2 E3:=⟨a _ _ h.b,a _ _ h.n,a _ _ h.y⟩
section
variable{P:fP}[Tz P][Loud P]{H:Hp}
def PF{l:List Int}(f:dF H v l)(g:l.length<=1000000):LL.Zb P 195 #[v] H λe a=>H.Sub a/\∃b,gL H a 3 e l b:=by
 refine LL.Zb.mono (ZnF f g (Loud.fD _)) ?_;rintro e a ⟨s,(⟨rfl,rfl⟩ | h)⟩
 ·exact⟨s,none,.nil H _ 3⟩
 exact⟨s,h⟩
def ZsD(hI:∀n,Up (I n))(hS:Up S)(Ji:b.pk.length<=1000)(hy:Zga P y xs I S)(rb rn ry:Nat) :
  ∀(r:Nat) (l:List Int) (rest:List (List Int)) (G H Hv:Hp) (v:Value),l.length+r=b.pk.length->XC G b.cs rb rn ry y E1 E2 E3->UJ l v Hv->Hv.gh=[]->H.Comp Hv->JG G (Uq xs I (UR b.pk.length r l++rest)) H ->
   LL.Zb P 282 #[v,pt rb,pt ry,pt rn] (H.join Hv) λw Q=>(w=vb true/\JG G (Uq xs I rest) Q)\/(w=vb false/\JG G S Q):=by
 intro r
 induction r with
 | zero=>
  rintro l rest G H Hv v hr hf ⟨A,c,rfl,hc,FY,AI,AL⟩ hg k hj;rw[UR]at hj;refine aU.m (fO ZmX) rfl ?_;unfold Zfj;have hG:fI G (H.join Hv):=hj.inc.trans (Um H Hv);refine Y ?_;refine Zh (OL _) rfl (UG (j:=3) (ZM (hG _ _ hf.b)) rfl) ?_;refine OJ (λh1=>?_) (λh1=>?_);rotate_left
  ·exact absurd O h1
  refine Y ?_;refine Zh (OL _) rfl (ZM (hG _ _ hf.y)) (Y ?_);have q:JG G (λK=>∃M:Hp,K=M.join Hv/\M.Comp Hv/\Uq xs I ([l]++rest) M) (H.join Hv):=by obtain⟨M,F,rfl,q1,q2,q3⟩:=hj;have c1:M.Comp Hv:=k.gP;have c2:F.Comp Hv:=Hp.Comp.gS q1 k;exact⟨M.join Hv,F,Hp.kI c2.symm,Hp.Comp.lX q1 c2.symm,q2,M,rfl,c1,q3⟩
  refine ZP (vs:=[.slice A l.length c]) rfl rfl (JG.call (B:=λw Q=>(w=.bool true/\Uq xs I rest Q)\/(w=.bool false/\S Q)) ?_ q) ?_
  ·rintro K ⟨M,rfl,q1,q2⟩;exact q2.call hy ⟨A,c,rfl,hc,FY,AI,AL⟩ hg q1
  rintro w H7 ⟨M,F,rfl,q1,q2,(⟨rfl,q3⟩ | ⟨rfl,q3⟩)⟩
  ·refine Y ?_;exact .inl ⟨rfl,M,F,rfl,q1,q2,q3⟩
  refine Y ?_;exact .inr ⟨rfl,M,F,rfl,q1,q2,q3⟩
 | succ r ih=>
  rintro l rest G H Hv v hr hf ⟨A,c,rfl,hc,FY,AI,AL⟩ hg k hj;rw[UR]at hj;refine aU.m (fO ZmX) rfl ?_;unfold Zfj;have Ka:fI G (G.join Hv):=Um G Hv;have KV:=hj.add k;have hGv:∀{K:Hp},fI (G.join Hv) K->fI G K:=λh=>Ka.trans h;have Rx:∀{K:Hp} {A':Hp->Prop},JG (G.join Hv) A' K->dF K (.slice A l.length c) l:=λh=>by
   have Jr:G.Comp Hv:=by obtain⟨M,F,rfl,q1,q2,_⟩:=hj;have:=Hp.Comp.gS q1 k;exact⟨λb x y h1 h2=>this.mem b x y (q2 _ _ h1) h2,.inr hg⟩
   exact dF.inc FY (λb x hb=>h.inc _ _ (Hp.fS Jr hb))
  generalize H.join Hv=H1 at *;have SP:=hf.inc Ka;have cb:∀{K:Hp} {A':Hp->Prop},JG (G.join Hv) A' K->aM K ⟨rb,0,none⟩ b.cs:=λh=>ZM (h.inc _ _ SP.b);refine Y ?_;refine Zh (OL _) rfl (UG (j:=3) (cb KV) rfl) ?_;refine OJ (λh1=>?_) (λh1=>?_)
  ·exact absurd h1 O
  refine Y ?_;refine Zh (OL _) rfl (UG (j:=3) (cb KV) rfl) (Y ?_);refine ZC b.pk.length (λi Q=>JG (G.join Hv) (Uq xs I (((List.range b.pk.length).drop i).flatMap (λi:Nat=>if l.any (λz=>(i:Int) == z)then[]else UR b.pk.length r (l++[(i:Int)]))++rest)) Q)
   (λi=>[(0,.slice A l.length c),(1,pt rb),(2,pt ry),(3,pt rn),(20,vi b.pk.length),(21,vi i)]) (λ_=>[]) KV V trivial ?_
  rintro i H2 hi q;refine OJ (λh2=>?_) (λh2=>?_)
  ·have SL:i<(List.range b.pk.length).length:=by rw[qBo];omega
   have u:=Rx q;rw[CI SL,qDL,qAI,qAE]at q;have J:l.length<=1000000:=O;cases hc:l.any (λz=>(i:Int) == z)with
   | true=>
    rw[hc,qAa rfl,qAt]at q;have f:=Zgi (P:=P) (n:=(i:Int)) u J;rw[hc]at f;refine Y ?_;refine ZiK (OL _) ?_ ?_ ?_ ?_;all_goals
     refine Y ?_
     refine Zo f ?_
     refine Y ?_
     exact⟨⟨i+1,O⟩,gI O,q,V,trivial,rfl⟩
   | false=>
    rw[hc,iF (by decide)]at q;have f:=Zgi (P:=P) (n:=(i:Int)) u J;rw[hc]at f;have key:∀(L:Hp) (X:Value) (b':Option Nat),H2.Sub L->gL H2 L 3 X (l++[(i:Int)]) b'->Z5 P (QL rb ry rn) #[X] L λw Q=>(w=vb true/\JG (G.join Hv) (Uq xs I (((List.range b.pk.length).drop (i+1)).flatMap (λi:Nat=>if l.any (λz=>(i:Int) == z)then[]else UR b.pk.length r (l++[(i:Int)]))++rest)) Q)\/(w=vb false/\JG (G.join Hv) S Q):=by intro L X b' W o4;obtain⟨H5,Hv5,rfl,c5,g5,s5,A5,Xm,e5,le5,sl5,ow5,bk5⟩:=Zvr W o4;exact Yv U (ih (l++[(i:Int)]) _ (G.join Hv) H5 Hv5 X (by simp;omega) SP ⟨A5,Xm,e5,le5,sl5,ow5,bk5⟩ g5 c5 (q.sub s5))
    have cn:∀{K:Hp},H2.Sub K->aM K ⟨rn,0,none⟩ [QL rb ry rn]:=λh=>ZM ((q.sub h).inc _ _ SP.n);refine Y ?_;refine ZiK (OL _) ?_ ?_ ?_ ?_
    ·refine Y ?_;refine Zo f (Y ?_);refine Zh (OL _) rfl (cn ⟨λ_ _ h=>h,rfl⟩) (Y ?_);refine Z4 (cs:=[vi (i:Int)]) (OL _) rfl λC s=>?_;refine Lz (YB s) ?_;have D:=YB (o:=.cells (List.toArray [vi (i:Int)]) 3) s;have mD:dF (H2.ins C (.cells (List.toArray [vi (i:Int)]) 3)) (.slice (some ⟨C,0,none⟩) 1 1) [(i:Int)]:=Z3 (l:=[(i:Int)]);generalize H2.ins C (.cells (List.toArray [vi (i:Int)]) 3)=Z at *;refine Y ?_;refine Zg (PF (u.sub D) J) ?_;rintro X L ⟨W,bb,ow⟩;refine Lz W ?_;have KD:H2.Sub L:=⟨λ_ _ h=>W.mem _ _ (D.mem _ _ h),W.gh.trans D.gh⟩;have o4:gL H2 L 3 X l bb:=⟨ow.own,λr e=>YP D.inc (ow.fresh r e)⟩;have KB:=mD.sub W;exact T2
    ·refine Y ?_;refine Zo f (Y ?_);refine Zh (OL _) rfl (cn ⟨λ_ _ h=>h,rfl⟩) (Y ?_);refine Zg (PF u J) ?_;rintro X Z ⟨D,bb,ow⟩;refine Lz D (Y ?_);refine Z4 (cs:=[vi (i:Int)]) (OL _) rfl λC s=>?_;refine Lz (YB s) ?_;have N:=YB (o:=.cells (List.toArray [vi (i:Int)]) 3) s;have KB:dF (Z.ins C (.cells (List.toArray [vi (i:Int)]) 3)) (.slice (some ⟨C,0,none⟩) 1 1) [(i:Int)]:=Z3 (l:=[(i:Int)]);have o4:=ow.ins (o:=.cells (List.toArray [vi (i:Int)]) 3) s;have KD:H2.Sub (Z.ins C (.cells (List.toArray [vi (i:Int)]) 3)):=⟨λ_ _ h=>N.mem _ _ (D.mem _ _ h),N.gh.trans D.gh⟩;generalize Z.ins C (.cells (List.toArray [vi (i:Int)]) 3)=L at *;exact T2
    ·refine Y ?_;refine Zo f (Y ?_);refine Z4 (cs:=[vi (i:Int)]) (OL _) rfl λC s=>?_;refine Zz OL ?_;have D:=YB (o:=.cells (List.toArray [vi (i:Int)]) 3) s;have mD:dF (H2.ins C (.cells (List.toArray [vi (i:Int)]) 3)) (.slice (some ⟨C,0,none⟩) 1 1) [(i:Int)]:=Z3 (l:=[(i:Int)]);generalize H2.ins C (.cells (List.toArray [vi (i:Int)]) 3)=Z at *;refine Y ?_;refine Zg (PF (u.sub D) J) ?_;rintro X L ⟨W,bb,ow⟩;have KD:H2.Sub L:=⟨λ_ _ h=>W.mem _ _ (D.mem _ _ h),W.gh.trans D.gh⟩;have o4:gL H2 L 3 X l bb:=⟨ow.own,λr e=>YP D.inc (ow.fresh r e)⟩;have KB:=mD.sub W;exact T8
    refine Y ?_;refine Zo f (Y ?_);refine Zg (PF u J) ?_;rintro X Z ⟨D,bb,ow⟩;refine Zz OL (Y ?_);refine Z4 (cs:=[vi (i:Int)]) (OL _) rfl λC s=>?_;have N:=YB (o:=.cells (List.toArray [vi (i:Int)]) 3) s;have KB:dF (Z.ins C (.cells (List.toArray [vi (i:Int)]) 3)) (.slice (some ⟨C,0,none⟩) 1 1) [(i:Int)]:=Z3 (l:=[(i:Int)]);have o4:=ow.ins (o:=.cells (List.toArray [vi (i:Int)]) 3) s;have KD:H2.Sub (Z.ins C (.cells (List.toArray [vi (i:Int)]) 3)):=⟨λ_ _ h=>N.mem _ _ (D.mem _ _ h),N.gh.trans D.gh⟩;generalize Z.ins C (.cells (List.toArray [vi (i:Int)]) 3)=L at *;exact T8
  have:i=b.pk.length:=O;subst this;rw[qCG (by simp),List.flatMap_nil,qAt]at q;refine Y ?_;exact .inl ⟨rfl,q.of (λ_ h=>h) Ka⟩
def ZzP(n:Nat)(k:Nat)(a:List Value)(Hv:Hp):Prop:=∃v,a=[v]/\∃h:k<(Zu n).length,UJ (Zu n)[k] v Hv
def ZsG(B:b.pk.length<=1000):PG P (.func (.func 212) #[b.v] #[]) (λ_=>True) (Zu b.pk.length).length (ZzP b.pk.length):=by
 rintro y I S H ⟨yf,ya,yb,D⟩ F J Z R s;have V:Zga P y (Zu b.pk.length) I S:=λn L v Hv H Q N M O=>R n L [v] Hv H ⟨v,rfl,L,Q⟩ N M O;have Jd:y.cells=#[y]:=by rw[D];rfl
 refine Yv U ?_;refine aU.m (fO ZxU) rfl ?_;unfold Zj2 Sb.v;have t:JG .nil (Uq (Zu b.pk.length) I (UR b.pk.length b.pk.length []++[])) H:=⟨H,.nil,(Hp.hZ H).symm,Hp.iJ H,λb x h=>by simp[Hp.nil]at h,by rw[qAl];exact .start s⟩;refine Y ?_;refine Ug rfl (OL _) λg C=>?_;have u:=t.new (.cells b.v.cells 238) C;refine Y ?_;refine Ug rfl (OL _) λj k=>?_;have w:=u.new (.cells y.cells 395) k;refine Y ?_;refine VY (fT ZgO) (OL _) λf e=>?_;have z:=w.new (.cells (Value.nilFunc).cells 395) e;have n1:j≠g:=by rintro rfl;rw[Hp.aQ]at k;simp at k
 have n2:f≠j:=by rintro rfl;rw[Hp.aQ]at e;simp at e
 have n3:f≠g:=by rintro rfl;rw[Hp.aR _ _ (qAo n1),Hp.aQ]at e;simp at e
 refine Y ?_;refine VW rfl rfl (Y ?_);refine VV (v:=QL g j f) (fT ZgO) rfl rfl (Hp.aQ _ _ _) rfl rfl (OL _) ?_;have r:=z.put (.cells #[QL g j f] 395) (Hp.aQ _ _ _);have K:XC ((((Hp.nil.ins g (.cells b.v.cells 238)).ins j (.cells y.cells 395)).ins f (.cells (Value.nilFunc).cells 395)).ins f (.cells #[QL g j f] 395)) b.cs g f j y 238 395 395:=by exact TY
 refine Y ?_;refine Zh (OL _) rfl (ZM (r.inc _ _ K.n)) (Y ?_);have a:=ZsD F J B V g f j b.pk.length [] [] _ _ .nil (.slice none 0 0) (by simp) K ⟨none,0,rfl,DO _,⟨none,0,rfl,λh=>absurd rfl h⟩,λx y h=>by simp[Hp.nil]at h,λh=>absurd rfl h⟩ rfl (Hp.iJ _) r;rw[Hp.hZ]at a;refine ZP (vs:=[.slice none 0 0]) rfl rfl (Yv U a) ?_;rintro v W (⟨rfl,h7⟩ | ⟨rfl,h7⟩)
 ·refine Y ?_;exact .inl (h7.up (ZnZ F)).stop
 refine Y ?_;exact .inr (h7.up J)
end
end
end Go.Proofs
end
section
open Go Go.LL
namespace Go.LL
def Zfw(p:Program):fP:={ toProgram:=p,still:=λ_=>false,stillNil:=λ_ _=>rfl,toEnv:=Env.lone }
def ZfZ{P:fP}{f:FuncId}{args:Array Value}{H:Hp}{a:Value->Hp->Prop}(r:P.still H.gh=false)(s:∀v K J,K.Comp J->a v K->a v (K.join J))(h:Zb (Zfw P.toProgram) f args H a):Zb P f args H λv j=>a v j/\j.gh=H.gh:=by
 intro G c u U O;have Q:=h (λg e K=>∃v,g=c.finish v/\e=u/\a v K) c u (λg e K J R ⟨v,C,D,F⟩=>⟨v,C,D,s v K J R F⟩) (λv j t=>.stop ⟨v,rfl,rfl,t⟩);refine Q (λg e K=>K.gh=H.gh->Reach P G g e K) ?_ ?_ ?_ rfl
 ·rintro g e K ⟨v,rfl,rfl,t⟩ m;exact O v K ⟨t,m⟩
 ·rintro g e K q m;refine .step ⟨λmain w V=>?_,λB=>?_⟩
  ·obtain⟨o,k,W,j,es,L,z,M,N⟩:=q.1 main w V;exact⟨o,k,W,j,es,L,z,M (z.gh.trans m),N⟩
  rw[m,r]at B;simp at B
 intro g e K q;exact q.elim
end Go.LL
end
open Go Go.LL
namespace Go.Proofs
noncomputable abbrev PL:fP:=Zfw Tryz.prog
noncomputable instance:Tz PL:=⟨rfl⟩
noncomputable instance:Loud PL:=⟨λ_=>rfl⟩
variable{b:Sb}{ts:List N4}{p:List Int}{n c cw i:Nat}{P:fP}{H:Hp}{A Aw:Option Addr}{l:List Nat}
noncomputable instance (c:Cx)(i:Nat):Tz (pw c i):=⟨rfl⟩
def Z1(n m:Nat):List Int:=(Zu n).getD (m-1) []
def Ui(b:Sb)(ts:List N4)(m:Nat):Bool:=decide (1<=m) && decide (Z6 (jA b ts (Z1 b.pk.length m)).good ts.length=1)
structure Te where
 (td:Td) (A:Option Addr) (n c:Nat)
instance:Enc Te:=⟨8,λe=>e.td.cs (.slice e.A e.n e.c),λ_=>rfl⟩
structure UK(b:Sb)(ts:List N4)(p:List Int)(e:Te)(Hl:Hp):Prop where
 td:e.td=jA b ts p
 n:e.n=p.length
 c:p.length<=e.c
 bk:∃r rest,e.A=some ⟨r,0,none⟩/\Hl r=some (.cells (Zd p++rest).toArray 3 (0,0),true)
def UK.sl{e:Te}{a:Hp}(h:UK b ts p e a):dF a (.slice e.A e.n e.c) p:=by obtain⟨r,rest,f,g⟩:=h.bk;exact⟨e.A,e.c,by rw[h.n],λ_=>⟨_,f,YN (ZM g)⟩⟩
structure Ic(b:Sb)(ts:List N4)(rF:Nat)(v:Value)(bb:Option Nat)(es:List Te)(l:List Nat)(Hl:Hp):Prop where
 at_:Hl rF=some (.cells #[v] 262,true)
 own:l9 Hl 258 8 v (Zd es) es.length bb
 ne:bb≠some rF
 all:∀x y,Hl x=some y->y.2=true
 len:es.length=l.length
 fit:∀k (h1:k<l.length) (h2:k<es.length),UK b ts (Z1 b.pk.length l[k]) es[k] Hl
 nd:l.Nodup
 rg:∀m∈l,1<=m/\m<=(Zu b.pk.length).length
def Ba(b:Sb)(ts:List N4)(f:Nat)(l:List Nat)(a:Hp):Prop:=∃v e es,Ic b ts f v e es l a
def Zgz:Tryz.prog.underlying 262=some (.slice 258):=U
def ZgR:Yw Tryz.prog 262=some (1,some (.slice none 0 0),24):=U
def Q0:Yw Tryz.prog 45=some (1,some (.slice none 0 0),24):=U
def chT(p:Program)(t:TypeId):Option TypeId:=match p.underlying t with | some (.chan _ e)=>some e | _=>none
def Zwv{p:Program}{t e:TypeId}(h:chT p t=some e):∃d,p.underlying t=some (.chan d e):=by unfold chT at h;split at h<;>simp only[IF,reduceCtorEq]at h;subst h;exact⟨_,‹_›⟩
def Zgw:∃d,Tryz.prog.underlying 325=some (.chan d 45):=Zwv U
def Kq:∀(N:Nat) (l:List Nat),l.Nodup->(∀m∈l,1<=m/\m<=N)->l.length<=N
 | 0,l,_,h=>by
  cases l with
  | nil=>simp
  | cons x l=>have:=h x (qAB ..);omega
 | N+1,l,e,h=>by
  by_cases g:N+1∈l
  ·have k:=Kq N (l.erase (N+1)) (e.erase _) λj a=>by obtain⟨o,f⟩:=(e.mem_erase_iff).1 a;have:=h j f;omega
   rw[List.length_erase_of_mem g]at k;omega
  have:=Kq N l e λj a=>by
   have f:=h j a;have:j≠N+1:=by rintro rfl;exact g a
   omega
  omega
def ZsF:(Zu 1).length<=24/\(Zu 2).length<=24/\(Zu 3).length<=24/\(Zu 4).length<=24:=by decide +kernel
def Az(h:1<=n/\n<=4):(Zu n).length<=24:=by obtain⟨a,e,f,g⟩:=ZsF;have:n=1\/n=2\/n=3\/n=4:=O;rcases this with rfl | rfl | rfl | rfl<;>assumption
def ZhX{n:Nat}:∀(r:Nat) (l p:List Int),p∈UR n r l->(∀z∈l,0<=z/\z<n)->p.length=l.length+r/\∀z∈p,0<=z/\z<n
 | 0,l,p,h,e=>by obtain rfl:=iO.1 h;exact⟨rfl,e⟩
 | r+1,l,p,h,e=>by
  rw[UR,qCP]at h;obtain⟨i,j,h⟩:=h;split at h
  ·simp at h
  obtain⟨f,g⟩:=ZhX r _ p h (λz a=>by
   rcases qAj.1 a with a | a
   ·exact e z a
   obtain rfl:=iO.1 a;have:=qAA.1 j;omega)
  exact⟨by rw[f];simp;omega,g⟩
def ZeV(h:p∈Zu n):p.length=n/\∀z∈p,0<=z/\z<n:=by obtain⟨a,e⟩:=ZhX n [] p h (by simp);exact⟨by simpa using a,e⟩
section
def Zn9[Tz P](m:P.toProgram=Tryz.prog)(g:P.still H.gh=false){l:List Int}(hb:Zq H b)(ok:gY b)(o:aM H ⟨3,0,none⟩ [vf 407])(j:dF H (.slice Aw ts.length cw) ts)(a:1<=ts.length/\ts.length<=1000)(r:∀t∈ts,YA t)
  (q:dF H (.slice A l.length c) l) (e:l.length=b.pk.length) (f:∀z∈l,0<=z/\z<b.pk.length) :
  LL.Zb P 135 #[YC b (.slice Aw ts.length cw),.slice A l.length c] H λv k=>(fI H k/\v=FM (jA b ts l) (.slice A l.length c))/\k.gh=H.gh:=by
 refine ZfZ g (λv K J s h=>⟨h.1.trans (Um _ _),h.2⟩) ?_;rw[m];exact My (P:=PL) hb ok o j a r q e f
def ZoB[Tz P](j:P.toProgram=Tryz.prog)(f:P.still H.gh=false)(jC:Int):LL.Zb P 136 #[YC b (.slice A n c),vi jC] H λv a=>(fI H a/\v=vi (Z6 jC n))/\a.gh=H.gh:=by refine ZfZ f (λv K J k h=>⟨h.1.trans (Um _ _),h.2⟩) ?_;rw[j];exact LL.Zb.mono (Zex (P:=PL) jC) λv a ⟨e,g⟩=>⟨e ▸ .refl _,g⟩
end
def QC{c:Cx}(h:H.cg=l)(e:1<=cd l/\cd l<=19):(pw c i).still H.gh=false:=by
 subst h;show((H.gh.headD 0 == 0) || (decide (20<=cd (ZV H.gh)) && decide (cd (ZV H.gh)<=24)))=false;unfold Hp.cg at e;generalize H.gh=g at *;match g with
 | []=>simp[ZV,cd]at e
 | 0 :: t=>simp[ZV,cd]at e
 | (n+1) :: t=>
  simp only[List.headD_cons];rw[show((n+1 == 0)=false)from by simp,qDO];simp;omega
def PV(h:H.gh=(n+1) :: l):H.cg=l/\H.hd=n:=by unfold Hp.cg Hp.hd;rw[h];exact⟨rfl,rfl⟩
section
theorem Zox{c:Cx}(ok:c.Ok){rF rC r1:Nat}(val:gY b)(pD:1<=ts.length/\ts.length<=1000)(Tv:∀t∈ts,YA t)
  (cPI:c.PI=Ba b ts rF) (cN:c.N=(Zu b.pk.length).length) (Q:c.need=Ui b ts) (EA:c.msg=λm v u=>UJ (Z1 b.pk.length m) v u)
   (hg:H.gh=[1,1]) (hC:aM H ⟨rC,0,none⟩ [.chan (some c.ch)]) (h1:aM H ⟨r1,0,none⟩ [vi b.pl,vi b.hd,vi b.td,.slice b.A1 b.pk.length b.c1,.slice b.A2 b.nt.length b.c2,.slice Aw ts.length cw])
  (hb:Zq H b) (hw:dF H (.slice Aw ts.length cw) ts) (KZ:aM H ⟨3,0,none⟩ [vf 407]) :
  Vd (pw c i) .deferred 208 #[ptr c.W,pt rC,pt r1,ptr c.M,pt rF] H λ_ H'=>H'.gh=lv 0:=by
 have nO:(pw c i).still H.gh=false:=by rw[hg];rfl
 have hN:=Az val.n;obtain⟨WX,hu⟩:=Zgw;refine aU.mK (P:=pw c i) (.inr rfl) ZxW rfl ?_;unfold Zj4;refine Y ?_;refine Zfd (vs:=[ptr c.W]) rfl (Y ?_);refine Zh nO rfl hC (Y ?_);refine XX (ι:=Nat) (λh H'=>fI H H'/\H'.hd=h/\h<=c.N/\((H'.cg=[1]/\c.need h=false)\/H'.cg=[19])) (λh=>c.N-h) (λ_=>[(0,ptr c.W),(1,pt rC),(2,pt r1),(3,ptr c.M),(4,pt rF),(7,.chan (some c.ch))]) (λ_=>[]) 0
  ⟨.refl H,by unfold Hp.hd;rw[hg];rfl,qBf _,.inl ⟨by unfold Hp.cg;rw[hg];rfl,ok.Ja⟩⟩ V trivial ?_
 rintro h H1 ⟨i1,e1,e2,e3⟩;have st1:(pw c i).still H1.gh=false:=by
  rcases e3 with⟨e,_⟩ | e
  ·exact QC e (by simp[cd])
  exact QC e (by simp[cd])
 refine Y ?_;refine Zte (p:=Tryz.prog) hu (ZgI Q0) (by rw[e1];exact e3) rfl (λm v u Ty xV m1 m2 m3 hm=>?_) ?_
 ·rw[e1]at m3;rw[EA]at hm;obtain⟨A,cp,rfl,hcp,FY,AI,AL⟩:=hm;have hpm:Z1 b.pk.length m∈Zu b.pk.length:=by unfold Z1;rw[ZG O];exact iN _
  obtain⟨Qn,pl2⟩:=ZeV hpm;have pK:Z1 b.pk.length m≠[]:=by intro e;rw[e]at Qn;have:=val.n;simp at Qn;omega
  obtain⟨X,rest,rfl,NX⟩:=AL pK;have hc:H1.Comp u:=⟨xV,.inr Ty⟩;have mK:∀x y,u x=some y->((H1.join u).tagged ((m+1) :: [1])) x=some y:=λx y h=>Hp.fS hc h;have iK:fI H ((H1.join u).tagged ((m+1) :: [1])):=λx y h=>Hp.eN (i1 _ _ h);have gK:((H1.join u).tagged ((m+1) :: [1])).gh=(m+1) :: [1]:=rfl;have dK:∀x y,H x=some y->u x=none:=λx y h=>by
   cases hh:u x with
   | none=>rfl
   | some z=>
    obtain⟨e4,e5⟩:=xV x y z (i1 _ _ h) hh;have:=AI x z hh;rw[e4,this]at e5;simp at e5
  generalize(H1.join u).tagged ((m+1) :: [1])=K at *;have slK:=FY.inc (H':=K) (λx y h=>mK x y h);have tn:=Zep (b:=b) (ts:=ts) (l:=Z1 b.pk.length m) ts.length (DO _);generalize hp:Z1 b.pk.length m=p at *;have Pt:(pw c i).still K.gh=false:=QC (PV gK).1 (by simp[cd]);refine Y ?_;refine Zn (cs:=[vi b.pl,vi b.hd,vi b.td,.slice b.A1 b.pk.length b.c1,.slice b.A2 b.nt.length b.c2,.slice Aw ts.length cw]) Pt rfl (h1.inc iK) rfl (Y ?_);refine Z7 (vs:=[YC b (.slice Aw ts.length cw),.slice (some ⟨X,0,none⟩) p.length cp]) rfl (Zn9 rfl Pt (hb.inc iK) val (KZ.inc iK) (hw.inc iK) pD Tv slK Qn pl2) ?_;rintro v H2 ⟨⟨i2,rfl⟩,g2⟩;have Is:(pw c i).still H2.gh=false:=by rw[g2];exact Pt
  refine Y ?_;refine Zn (cs:=[vi b.pl,vi b.hd,vi b.td,.slice b.A1 b.pk.length b.c1,.slice b.A2 b.nt.length b.c2,.slice Aw ts.length cw]) Is rfl ((h1.inc iK).inc i2) rfl (Y ?_);refine Z7 (vs:=[YC b (.slice Aw ts.length cw),vi (jA b ts p).good]) rfl (ZoB rfl Is _) ?_;rintro v J ⟨⟨i3,rfl⟩,g3⟩;have g3':J.gh=(m+1) :: [1]:=g3.trans (g2.trans gK);obtain⟨cg3,Jt⟩:=PV g3';have iH3:fI H J:=(iK.trans i2).trans i3;have m3:∀x y,u x=some y->J x=some y:=λx y h=>i3 _ _ (i2 _ _ (mK x y h));refine OJ (λh4=>?_) (λh4=>?_)
  ·have hn:c.need m=true:=by rw[Q,Ui,hp];simp[h4,m1]
   refine Y ?_
   refine Z7 (vs:=[ptr c.M]) rfl (ZuG ok (by rw[Jt];exact hn) cg3) ?_
   rintro v _ ⟨l,L,KP,hil,_,B7,R,rfl⟩
   rw[Jt]at hil
   rw[cPI]at KP
   obtain⟨fv,bb,es,a⟩:=KP
   have hJ:∀x y,L x=some y->((J.tagc (12 :: l)).join L) x=some y:=λx y h=>Hp.fS R h
   have i4:fI J ((J.tagc (12 :: l)).join L):=λx y h=>Hp.eN h
   have g4:((J.tagc (12 :: l)).join L).gh=(m+1) :: 12 :: l:=by rw[Hp.gB,B7,qAl];show(J.hd+1) :: 12 :: l=_;rw[Jt]
   have dL:∀x y,J x=some y->L x=none:=λx y h=>by
    cases hh:L x with
    | none=>rfl
    | some z=>
     obtain⟨e4,e5⟩:=R.mem x y z h hh;have:=a.all x z hh;rw[e4,this]at e5;simp at e5
   generalize(J.tagc (12 :: l)).join L=H4 at *
   have st4:(pw c i).still H4.gh=false:=QC (PV g4).1 (by simp[cd])
   have hll:l.length<=24:=qAP (Kq _ l a.nd a.rg) hN
   have K6:=a.len
   refine Y ?_
   refine Zh st4 rfl (ZM (hJ _ _ a.at_)) ?_
   refine Y ?_
   refine Z4 (cs:=(jA b ts p).cs (.slice (some ⟨X,0,none⟩) p.length cp)) st4 rfl λr7 NY=>?_
   have i5:=Zt (o:=.cells ((jA b ts p).cs (.slice (some ⟨X,0,none⟩) p.length cp)).toArray 258) NY
   have g5:(H4.ins r7 (.cells ((jA b ts p).cs (.slice (some ⟨X,0,none⟩) p.length cp)).toArray 258)).gh=(m+1) :: 12 :: l:=g4
   have c7:aM (H4.ins r7 (.cells ((jA b ts p).cs (.slice (some ⟨X,0,none⟩) p.length cp)).toArray 258)) ⟨r7,0,none⟩ ((jA b ts p).cs (.slice (some ⟨X,0,none⟩) p.length cp)):=VR
   generalize H4.ins r7 (.cells ((jA b ts p).cs (.slice (some ⟨X,0,none⟩) p.length cp)).toArray 258)=H5 at *
   have Ir:(pw c i).still H5.gh=false:=QC (PV g5).1 (by simp[cd])
   have o5:l9 H5 258 8 fv (Zd es) es.length bb:=a.own.sub λx y _ h=>i5 _ _ (hJ _ _ h)
   have f5:=i5 _ _ (hJ _ _ a.at_)
   have Jc:fI J H5:=i4.trans i5
   refine Y ?_
   refine XZ (m:=1) (xs:=(jA b ts p).cs (.slice (some ⟨X,0,none⟩) p.length cp)) (fU Zgz) (fU Zgz) (fT Z0) rfl (by decide) rfl rfl o5 (.inr ⟨_,1,rfl,c7⟩) rfl rfl O (by decide) Ir λv' H6 b' o6 ch=>?_
   have f6:=ch.keep _ _ f5 a.ne
   have g6:H6.gh=(m+1) :: 12 :: l:=ch.gh.trans g5
   have st6:(pw c i).still H6.gh=false:=QC (PV g6).1 (by simp[cd])
   have R9:b'≠some rF:=by
    rcases ch.new with rfl | ⟨r,rfl,hr⟩
    ·exact a.ne
    intro e;obtain rfl:=aT e;rw[f5]at hr;simp at hr
   obtain⟨A',c',ev,_⟩:=o6.cells
   subst ev
   refine Y ?_
   refine VV (fT ZgR) rfl rfl f6 rfl rfl st6 ?_
   obtain⟨e',he'⟩:∃e':Te,e'=⟨jA b ts p,some ⟨X,0,none⟩,p.length,cp⟩:=⟨_,rfl⟩
   have o7:l9 (H6.ins rF (.cells #[.slice A' (es.length+1) c'] 262)) 258 8 (.slice A' (es.length+1) c') (Zd (es++[e'])) (es++[e']).length b':=by
    have e9:Zd (es++[e'])=Zd es++(jA b ts p).cs (.slice (some ⟨X,0,none⟩) p.length cp):=by rw[yX,he'];simp[Zd,Enc.enc]
    rw[e9,IN,qAW];refine o6.sub λx y e h=>?_;rw[Hp.aR _ _ (by rintro rfl;exact R9 e)];exact h
   have f7:(H6.ins rF (.cells #[.slice A' (es.length+1) c'] 262)) rF=some (.cells #[.slice A' (es.length+1) c'] 262,true):=Hp.aQ _ _ _
   have g7:(H6.ins rF (.cells #[.slice A' (es.length+1) c'] 262)).gh=(m+1) :: 12 :: l:=g6
   have k7:∀x y,x≠rF->H5 x=some y->bb≠some x->(H6.ins rF (.cells #[.slice A' (es.length+1) c'] 262)) x=some y:=λx y hx h1 h2=>by rw[Hp.aR _ _ hx];exact ch.keep _ _ h1 h2
   generalize H6.ins rF (.cells #[.slice A' (es.length+1) c'] 262)=H7 at *
   have Jx:∀x,bb=some x->∃cs,L x=some (.cells cs 258 (0,0),true):=λx hx=>by
    obtain⟨_,⟨_,_,e⟩ | ⟨r,cap,F,e,_,h9,_⟩⟩:=a.own
    ·rw[hx]at e;simp at e
    rw[hx]at e;obtain rfl:=aT e;exact⟨_,h9⟩
   have hb3:∀x y,J x=some y->bb≠some x:=λx y h e=>by obtain⟨cs,h9⟩:=Jx x e;rw[dL x y h]at h9;simp at h9
   have hF3:∀x y,J x=some y->x≠rF:=λx y h e=>by subst e;have:=dL _ _ h;rw[a.at_]at this;simp at this
   have k3:∀x y,J x=some y->H7 x=some y:=λx y h=>k7 x y (hF3 x y h) (Jc _ _ h) (hb3 x y h)
   let D:Nat->Prop:=λx=>x=rF\/b'=some x\/((L x).isSome=true/\bb≠some x)\/(u x).isSome=true
   have hD:∀x,D x=(x=rF\/b'=some x\/((L x).isSome=true/\bb≠some x)\/(u x).isSome=true):=λx=>rfl
   let w:Hp:=⟨λx=>if x=rF\/b'=some x\/((L x).isSome=true/\bb≠some x)\/(u x).isSome=true then none else H7 x,(m+1) :: 12 :: l⟩
   let B:Hp:=⟨λx=>if x=rF\/b'=some x\/((L x).isSome=true/\bb≠some x)\/(u x).isSome=true then H7 x else none,[]⟩
   have h0:∀x,w x=if D x then none else H7 x:=λx=>rfl
   have sS:∀x,B x=if D x then H7 x else none:=λx=>rfl
   have hj:H7=w.join B:=by
    refine Hp.ext' (λx=>?_) (by rw[g7,Hp.gB];simp[w,B]);rw[Hp.fW,h0,sS];by_cases e:D x
    ·simp[e]
    simp only[e,qAq];cases H7 x<;>rfl
   have Wj:w.Comp B:=⟨λx y z j hz=>by
    rw[h0]at j;rw[sS]at hz;by_cases e:D x
    ·rw[qAa e]at j;simp at j
    rw[iF e]at hz;simp at hz,.inr rfl⟩
   have Iy:∀x y,D x->H7 x=some y->B x=some y:=λx y e h=>by rw[sS,qAa e];exact h
   have K8:∀r cs,L r=some (.cells cs 3 (0,0),true)->D r/\H7 r=some (.cells cs 3 (0,0),true):=λr cs h=>by
    have q1:bb≠some r:=λe=>by obtain⟨kY,h9⟩:=Jx r e;rw[h]at h9;simp at h9
    have q2:r≠rF:=by rintro rfl;have:=a.at_;rw[h]at this;simp at this
    exact⟨.inr (.inr (.inl ⟨by rw[h];rfl,q1⟩)),k7 r _ q2 (i5 _ _ (hJ _ _ h)) q1⟩
   have Sr:c.PI (l++[m]) B:=by
    rw[cPI];refine⟨_,b',es++[e'],⟨Iy _ _ (.inl rfl) f7,o7.sub λx y e h=>Iy _ _ (.inr (.inl e)) h,R9,λx y j=>?_,by rw[IN,IN,K6];rfl,λk k1 k2=>?_,?_,λq hq=>?_⟩⟩
    ·rw[sS]at j;by_cases e:D x
     ·rw[qAa e]at j;rcases e with rfl | e | ⟨e,e8⟩ | e
      ·rw[f7]at j;obtain rfl:=aT j;rfl
      ·obtain⟨_,⟨_,_,q⟩ | ⟨r,cap,F,q,_,h9,_⟩⟩:=o7
       ·rw[e]at q;simp at q
       rw[e]at q;obtain rfl:=aT q;rw[h9]at j;obtain rfl:=aT j;rfl
      ·obtain⟨z,hz⟩:=qBR.1 e;by_cases ex:x=rF
       ·subst ex;rw[f7]at j;obtain rfl:=aT j;rfl
       have:=k7 x z ex (i5 _ _ (hJ _ _ hz)) e8;rw[this]at j;obtain rfl:=aT j;exact a.all x _ hz
      obtain⟨z,hz⟩:=qBR.1 e;have:=k3 x z (m3 _ _ hz);rw[this]at j;obtain rfl:=aT j;exact AI x _ hz
     rw[iF e]at j;simp at j
    ·by_cases hk:k<l.length
     ·have q1:(l++[m])[k]=l[k]:=qBw hk;have q2:(es++[e'])[k]=es[k]'O:=qBw O;rw[q1,q2];obtain⟨a1,a2,a3,r,F,a4,a5⟩:=a.fit k hk O;obtain⟨a6,a7⟩:=K8 r _ a5;exact⟨a1,a2,a3,r,F,a4,Iy _ _ a6 a7⟩
     have Tk:k=l.length:=by simp at k1;omega
     subst Tk;have q1:(l++[m])[l.length]=m:=by simp
     have q2:(es++[e'])[l.length]=e':=by simp[<-K6]
     rw[q1,q2,hp,he'];exact⟨rfl,rfl,hcp,X,rest,rfl,Iy _ _ (.inr (.inr (.inr (by rw[NX];rfl)))) (k3 _ _ (m3 _ _ NX))⟩
    ·rw[List.nodup_append];exact⟨a.nd,by simp,λx hx y j=>by rw[iO.1 j];rintro rfl;exact hil hx⟩
    rcases qAj.1 hq with hq | hq
    ·exact a.rg q hq
    rw[iO.1 hq];omega
   have iH0:fI H w:=λx y h=>by
    have h3:=iH3 _ _ h;rw[h0,iF]
    ·exact k3 _ _ h3
    rintro(e | e | ⟨e,_⟩ | e)
    ·exact hF3 x y h3 e
    ·rcases ch.new with rfl | ⟨r,rfl,hr⟩
     ·exact hb3 x y h3 e
     obtain rfl:=aT e;rw[Jc _ _ h3]at hr;simp at hr
    ·rw[dL x y h3]at e;simp at e
    rw[dK x y h]at e;simp at e
   have gp0:w.gh=(m+1) :: 12 :: l:=rfl
   clear_value w B
   obtain⟨cg0,hd0⟩:=PV gp0
   refine Y ?_
   rw[hj]
   refine Z7 (vs:=[ptr c.M]) rfl (Zn0 ok (kd:=.normal) (.inl rfl) Wj cg0 (by rw[hd0];exact Sr)).qP ?_
   rintro v _ rfl
   refine Y ?_
   exact⟨m,O,⟨iH0,hd0,m2,.inr rfl⟩,V,trivial,rfl⟩
  have hn:c.need m=false:=by rw[Q,Ui,hp];simp[h4]
  refine Y ?_;exact⟨m,O,⟨iH3,Jt,m2,.inl ⟨cg3,hn⟩⟩,V,trivial,rfl⟩
 refine Y ?_;refine Zfr rfl rfl ?_;refine ZtS (P:=pw c i) Tryz.func209 rfl rfl ?_;exact Vd.mono (Zwe ok (kd:=.deferred) (.inr rfl) (H:=H1.tagged [1,19,1]) rfl) λv H' e=>by rw[e];rfl
end
