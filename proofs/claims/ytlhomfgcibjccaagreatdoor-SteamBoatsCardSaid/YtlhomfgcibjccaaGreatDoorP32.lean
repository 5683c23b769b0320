import Derived.Test.YtlhomfgcibjccaaGreatDoorP25
import Derived.Test.YtlhomfgcibjccaaGreatDoorP26
import Derived.Test.YtlhomfgcibjccaaGreatDoorP31
set_option linter.all false
set_option maxHeartbeats 8000000
set_option maxRecDepth 20000
section
open Go Go.LL
namespace Go.Proofs
section
variable{b:Sb}{A:Option Addr}{c:Nat}{l:List Int}{n:Int}
def Na{G:Prop} (h:G:=by
  rw[aT h0];refine OJ (λh1=>?_) (λh1=>?_)
  ·refine Y ?_;exact⟨oQ,rfl⟩
  exact absurd h1 h0):G:=h
def Mc{own:Int}(h:Zl b own=0):own=0:=by
 unfold Zl at h;split at h
 ·rename_i q;exact absurd h q
 split at h
 ·rename_i q;exact absurd h q
 rename_i q;simpa using q
def ON(b:Sb)(l:List Int):Int×Int:=if Zl b (Yq b l)=0 then((cG b (Zi b) l).lo,(cG b (Zi b) l).hi)else(0,0)
def xB(b:Sb)(l:List Int):Int:=if Zl b (Yq b l)=0 then fN (cG b (Zi b) l).good (Zi b).length else 0
def Oc(b:Sb)(l:List Int)(n:Int):Int:=if Yq b l≠0 then Yq b l else Yz b n
def CX(b:Sb)(l:List Int)(n:Int):Int:=if Zl b (Oc b l n)=0 then fN ((cG b (Zi b) l).cold.get n.toNat) (Zi b).length else 0
def ZnU:Tryz.prog.underlying 104=some (.array 4 3):=U
section
variable{P:aX}[Tz P][Loud P]{H:Hp}
theorem KH(hb:Zr H b)(sz:b.Sz)(r:Yk H)(h:aC H ⟨1,0,none⟩ [vf 284])(j:aF H (.slice A l.length c) l)(q:l.length<=c)(s:l.length<=1000000) :
  LL.Zc P 24 #[b.v,.slice A l.length c] H λv k=>aL H k/\v=.tuple #[.agg #[vi (ON b l).1,vi (ON b l).2],vi (Zl b (Yq b l))]:=by
 refine aJ.m (bG ZxU) (args:=[b.v,.slice A l.length c]) rfl ?_;unfold Zlh Sb.v;refine Y ?_;refine Za [.slice A l.length c] (ZiQ (b:=b) j q s sz.pk) ?_;rintro o C ⟨s1,K,L,f⟩;refine Zp OL (Y ?_);refine Za [b.v,o] (Ov (hb.sub s1) sz (aC.sub r s1) f) ?_;rintro v D ⟨u,t⟩;have oQ:=s1.inc.trans u;refine Zp OL ?_;rcases t with⟨h0,rfl⟩ | ⟨h0,ok,e,w,J,rfl,B⟩
 ·unfold U1 ON;exact Na
 unfold ON;rw[iF h0,h0];have a:=U5 (Mc h0);have g:=B.sl;obtain⟨Aw,cw,rfl,_⟩:=id g;unfold ZU;refine Y ?_;refine Za [ZU b (.slice Aw (Zi b).length cw),.slice A l.length c] (Bb (hb.inc oQ) ok (h.inc oQ) g ⟨e,by have:=UI ok;omega⟩ (vV ok) (j.inc oQ) a.1 a.2.1) ?_;rintro v F ⟨z,rfl⟩;refine Y ?_;exact⟨oQ.trans z,rfl⟩
theorem FR(hb:Zr H b)(sz:b.Sz)(r:Yk H)(h:aC H ⟨1,0,none⟩ [vf 284])(j:aF H (.slice A l.length c) l)(q:l.length<=c)(s:l.length<=1000000) :
  LL.Zc P 28 #[b.v,.slice A l.length c] H λv k=>aL H k/\v=.tuple #[vi (xB b l),vi (Zl b (Yq b l))]:=by
 refine aJ.m (bG ZxS) (args:=[b.v,.slice A l.length c]) rfl ?_;unfold Zlf Sb.v;refine Y ?_;refine Za [.slice A l.length c] (ZiQ (b:=b) j q s sz.pk) ?_;rintro o C ⟨s1,K,L,f⟩;refine Zp OL (Y ?_);refine Za [b.v,o] (Ov (hb.sub s1) sz (aC.sub r s1) f) ?_;rintro v D ⟨u,t⟩;have oQ:=s1.inc.trans u;refine Zp OL ?_;rcases t with⟨h0,rfl⟩ | ⟨h0,ok,e,w,J,rfl,B⟩
 ·unfold U1 xB;exact Na
 unfold xB;rw[iF h0,h0];have a:=U5 (Mc h0);have g:=B.sl;obtain⟨Aw,cw,rfl,_⟩:=id g;unfold ZU;refine Y ?_;refine Za [ZU b (.slice Aw (Zi b).length cw),.slice A l.length c] (Bb (hb.inc oQ) ok (h.inc oQ) g ⟨e,by have:=UI ok;omega⟩ (vV ok) (j.inc oQ) a.1 a.2.1) ?_;rintro v F ⟨z,rfl⟩;refine Zp OL (Y ?_);refine Za [ZU b (.slice Aw (Zi b).length cw),vi (cG b (Zi b) l).good] (Mi _) ?_;rintro v _ ⟨rfl,rfl⟩;refine Y ?_;exact⟨oQ.trans z,rfl⟩
def ZyT{e f:Nat}(o:aC H ⟨e,0,none⟩ [.slice A l.length c])(q:aC H ⟨f,0,none⟩ [vi n])(s:aF H (.slice A l.length c) l)(r:l.length<=c)(t:l.length<=1000000)(h:b.pk.length<=1000000) :
  LL.Zc P 95 #[b.v,pt e,pt f] H λv j=>aL H j/\v=vi (Oc b l n):=by
 refine aJ.m (bG Zxu) (args:=[b.v,pt e,pt f]) rfl ?_;unfold ZkR Sb.v;refine Y ?_;refine Ya o (Y ?_);refine Za [b.v,.slice A l.length c] (Jx s r t h) ?_;rintro v _ ⟨rfl,rfl⟩;refine OJ (λg=>?_) (λg=>?_)
 ·refine Y ?_;exact⟨.refl _,by rw[Oc,iF g];rfl⟩
 refine Y ?_;refine Ya q (Y ?_);refine Za [vi n] (Lb (b:=b) n h) ?_;rintro C k ⟨s1,z,B,a⟩;refine Zp OL (Y ?_);refine ZM (vs:=[b.v]) rfl rfl (a k (.refl _)) ?_;rintro v w ⟨u,rfl⟩;refine Y ?_;exact⟨s1.inc.trans u,by rw[Oc,aT O];rfl⟩
theorem TQ(hb:Zr H b)(sz:b.Sz)(R:Yk H)(u:aC H ⟨1,0,none⟩ [vf 284])(M:aF H (.slice A l.length c) l)(Q:l.length<=c)(V:l.length<=1000000) :
  LL.Zc P 26 #[b.v,.slice A l.length c,vi n] H λv J=>aL H J/\v=.tuple #[vi (CX b l n),vi (Zl b (Oc b l n))]:=by
 refine aJ.m (bG ZxT) (args:=[b.v,.slice A l.length c,vi n]) rfl ?_;unfold Zlg Sb.v;refine Y ?_;refine V9 rfl (OL _) λq D=>Y ?_;refine V9 rfl (OL _) λr j=>?_;have t:=(Zs (o:=.cells (Value.slice A l.length c).cells 26) D).trans (Zs (o:=.cells (vi n).cells 3) j);have K:aC ((H.ins q (.cells (Value.slice A l.length c).cells 26)).ins r (.cells (vi n).cells 3)) ⟨q,0,none⟩ [.slice A l.length c]:=aC.inc (VK (cs:=[.slice A l.length c])) (Zs j);have L:aC ((H.ins q (.cells (Value.slice A l.length c).cells 26)).ins r (.cells (vi n).cells 3)) ⟨r,0,none⟩ [vi n]:=VK (cs:=[vi n]);generalize(H.ins q (.cells (Value.slice A l.length c).cells 26)).ins r (.cells (vi n).cells 3)=H1 at *;refine Y ?_;refine VQ rfl rfl (Y ?_);refine Za [b.v,.func (.func 95) #[] #[pt q,pt r]] (Ov (own:=Oc b l n) (hb.inc t) sz (aC.inc R t) (λJ z=>Yj U (ZyT (K.inc z) (L.inc z) ((M.inc t).inc z) Q V sz.pk))) ?_;rintro v H2 ⟨F,X⟩;have oQ:=t.trans F;rcases X with⟨h0,rfl⟩ | ⟨h0,ok,h,w,bb,rfl,Z⟩
 ·unfold U1 CX;exact Na
 unfold CX;rw[iF h0,h0];have s:=Mc h0;have C:Yq b l=0:=qAd λe=>by rw[Oc,iF e]at s;exact e s
 have W:0<=n/\n<b.pk.length:=qAd λe=>by rw[Oc,aT O,Yz,aT e]at s;exact absurd s (by decide)
 have g:=U5 C;have f:n.toNat<4:=by have:=ok.n;omega
 have k:=Z.sl;obtain⟨Aw,cw,rfl,_⟩:=id k;unfold ZU;refine Y ?_;refine Zh (OL _) rfl (K.inc F) (Y ?_);refine Zh (OL _) rfl (L.inc F) (Y ?_);refine Za [ZU b (.slice Aw (Zi b).length cw),.slice A l.length c] (Bb (hb.inc oQ) ok (u.inc oQ) k ⟨h,by have:=UI ok;omega⟩ (vV ok) (M.inc oQ) g.1 g.2.1) ?_;rintro v H3 ⟨N,rfl⟩;refine TT OL N (Y ?_);have B:vi n=vi (n.toNat:Int):=by congr 1;omega
 rw[B];generalize n.toNat=i at *;refine LC (v:=vi ((cG b (Zi b) l).cold.get i)) (bI ZnU) (cD t3) (zZ a3) rfl rfl f (by
  match i,f with
  | 0,_=>rfl
  | 1,_=>rfl
  | 2,_=>rfl
  | 3,_=>rfl) ?_
 refine Zp OL (Y ?_);refine Za [ZU b (.slice Aw (Zi b).length cw),vi ((cG b (Zi b) l).cold.get i)] (Mi _) ?_;rintro v _ ⟨rfl,rfl⟩;refine Y ?_;exact⟨oQ.trans N,rfl⟩
end
end
end Go.Proofs
end
section
open Go Go.LL
namespace Go.LL
section
open Go.Conc (rcase scase recvd)
variable{T E:TypeId}{PB:ChanDir}{sz dI ch n:Nat}{zv v:Value}{ρ:Operand->Value}{ts:Array TypeId}
section
variable{P:aX}{d:Option Nat}{next:aM->Hp->Prop}{σ:aM}{H:Hp}{x y:Operand}{ty:TypeId}
def ZsV(g:P.toProgram.underlying T=some (.chan PB E))(t:TI P.toProgram E sz zv dI)(a:P.still H.gh=false)(h:∀r,H r=none->next (σ.set d (.chan (some r))) (H.ins r (.chan 0 #[] false 0 0 false))) :
  (bE.raw (.makeChan T (.const (.int .i64 0))) ty).m P d next σ H:=by
 obtain⟨q,k,u,w,o⟩:=t.ex;refine YS (by simp[Op.operands,aM.get]) (s:=Instr.makeChan T (.int .i64 0)) (by simp[execOp,aR,aM.get]) ?_;have j:IntKind.i64.wrap (0:Int)=0:=by decide
 have e:¬ ((0:Int)<0\/(0:Int) > IntKind.i64.max\/((dI:Nat):Int) * 0 > 2 ^ 48-112):=by rw[Int.mul_zero];decide
 simp only[Instr.makeChan,Zg,Zw g,asInt,asIntOf,Zj,O1 k,o,j];simp only[e,qAw,Int.toNat_zero,newObj,Zg,Zj];exact⟨a,λr f=>h r f⟩
def Zpt{p:Program}(f:p.underlying T=some (.chan PB E))(m:TI p E sz zv dI)(g:ρ x=.chan (some ch)){a:Bool}(w:World) :
  (execOp ρ (aR (.recv T x a) ty)).runT p w #[]=(.ok (.comm #[rcase ch zv] true (.recv a)) w,#[]):=by
 obtain⟨k,h,o,j,q⟩:=m.ex;have e:execOp ρ (aR (.recv T x a) ty)=(do
  let .chan _ elem <-underlying T | stuck "receive: channel type expected"
  pure (.comm #[{ chan:=ρ x,send:=none,zero:=<-zeroValue elem }] true (.recv a)):Sem Next):=rfl
 rw[e,Sem.runT_eq];simp[underlying,zeroValue,typeInfo,f,h,j,g,rcase,Result.andThen,Result.evThen,Sem.run_bind,Sem.events_bind,run_program,events_program]
theorem Zps{p:Program}(a:ρ x=.chan (some ch))(f:ρ y=v)(w:World) :
  (execOp ρ (aR (.send x y) ty)).runT p w #[]=(.ok (.comm #[scase ch v (.tuple #[])] true .send) w,#[]):=by
 have e:execOp ρ (aR (.send x y) ty)=(pure (.comm #[{ chan:=ρ x,send:=some (ρ y),zero:=.tuple #[] }] true .send):Sem Next):=by simp[execOp,aR]
 rw[e,a,f];rfl
def Zpu{p:Program}(q:ρ x=.chan (some ch))(w:World)(g:w.heap[ch]? = some (.chan 0 #[] false n n false)) :
  (execOp ρ (aR (.call { callee:=.builtin .close,args:=#[x],argTypes:=ts }) ty)).runT p w #[]=(.ok (.value (.tuple #[])) { w with heap:=w.heap.setIfInBounds ch (.chan 0 #[] true n n false) },#[⟨.obj ch,false,true⟩,⟨.obj ch,true,true⟩]):=by
 have e:execOp ρ (aR (.call { callee:=.builtin .close,args:=#[x],argTypes:=ts }) ty)=(do let v <-Builtin.close_ ts ty #[.chan (some ch)];pure (.value v):Sem Next):=by simp[execOp,aR,resolve,invoke,builtin,q]
 rw[e];have f:ch<w.heap.size:=by
  rcases qBi ch w.heap.size with h | h
  ·exact h
  rw[qDh h]at g;simp at g
 have o:w.heap[ch]=.chan 0 #[] false n n false:=by rw[qBB f]at g;exact iO g
 have m:Builtin.close_ ts ty #[.chan (some ch)]=(do
  let .chan room k closed j a timer <-getObj ch | stuck "close: no channel in this block"
  if closed then runtimePanic (.plain "close of closed channel")
  setObj ch (.chan room k true j a timer)
  pure (.tuple #[])):=rfl
 rw[m];simp[- Sem.runT_eq,getObj,setObj,Sem.runT,bind,Sem.bind,pure,g,f,o];exact⟨rfl,rfl⟩
end
section
variable{p:Program}{c:Cx}{i:Nat}{d:Option Nat}{next:aM->Hp->Prop}{σ:aM}{H:Hp}{x y:Operand}{ty:TypeId}
def ZsT(o:p.underlying T=some (.chan PB E))(q:TI p E sz zv dI)(k:(H.cg=[1]/\c.need H.hd=false)\/H.cg=[19])(e:σ.get x=some (.chan (some c.ch)))
  (g:∀m v a,a.gh=[]->H.Dis a->1<=m->m<=c.N->H.hd<m->c.msg m v a->next (σ.set d (.tuple #[v,.bool true])) ((H.join a).tagged ((m+1) :: [1])))
  (j:next (σ.set d (.tuple #[zv,.bool false])) (H.tagged [1,19,1])):(bE.raw (.recv T x true) ty).m ((bO p c).prgW i) d next σ H:=
 Jk (Post:=λv f=>next (σ.set d v) f) (by simp[Op.operands,e]) (ZoM (z:=zv) (BX:=true) k (λw n r _=>Zpt o q (by simp[e]) w) g j) λv f h=>h
def ZsR{r:Nat}{a e:Hp}(q:a.gh=(r+3) :: [30,c.K])(o:a.Comp e)(f:e.gh=[])(s:c.msg (c.N-r) v e)(j:σ.get x=some (.chan (some c.ch)))(k:σ.get y=some v)
  (t:next (σ.set d undef) (a.tagged ((r+2) :: [30,c.K]))):(bE.raw (.send x y) ty).m (bO p c).prgM d next σ (a.join e):=
 Jk (Post:=λv g=>next (σ.set d v) g) (by simp[Op.operands,j,k]) (ZoL q o f s (λw n _=>Zps (by simp[j]) (by simp[k]) w) t) λv g h=>h
def Zs2(ok:c.Ok)(f:H.gh=[2,30,n])(e:σ.get x=some (.chan (some c.ch)))(g:next (σ.set d (.tuple #[])) (H.tagged [1,30,n])) :
  (bE.raw (.call { callee:=.builtin .close,args:=#[x],argTypes:=ts }) ty).m (bO p c).prgM d next σ H:=
 Jk (Post:=λv a=>next (σ.set d v) a) (by simp[Op.operands,Call.operands,e]) (ZtP ok f (λw n j=>Zpu (by simp[e]) w j) g) λv a h=>h
end
end
end Go.LL
end
section
open Go Go.LL
namespace Go.Proofs
section
variable{G:Prop}{α:Type}{I:Nat->Hp->Prop}{y v:Value}{xs:List (List Int)}{S:Hp->Prop}{Hv:Hp}{b:Sb}{E1 E2 E3:TypeId}
def ZhV(h:G:=by refine Y ?_;refine U7 (l':=[(i:Int)]) (bI dW) (bI dW) (cD t3) rfl (by decide) GC.inc o4 GB rfl (by simp only[qAs,List.length_nil];omega) O rfl rfl (OL _) λv5 H5 b5 k1 k2 k3=>?_;have Cp:H2.Sub H5:=⟨k1,k3.gh.trans GC.gh⟩;exact ZhX):G:=h
def ZhW(h:G:=by refine Y ?_;refine U7 (l':=[(i:Int)]) (bI dW) (bI dW) (cD t3) rfl (by decide) GC.inc o4 GB rfl (by simp only[qAs,List.length_nil];omega) O rfl rfl (OL _) λv5 H5 b5 k1 k2 k3=>?_;have Cp:H2.Sub H5:=⟨k1,k3.gh.trans GC.gh⟩;refine Y ?_;refine Zh (OL _) rfl (cn Cp) ?_;exact ZhX):G:=h
def ZhX(h:G:=by
  refine Y ?_;refine ZM (vs:=[v5]) rfl rfl (key H5 v5 b5 Cp k2) ?_;rintro w H6 (⟨rfl,Fh⟩ | ⟨rfl,Fh⟩)
  ·refine Y ?_;exact⟨⟨i+1,O⟩,bN O,Fh,V,trivial,rfl⟩
  refine Y ?_;exact .inr ⟨rfl,Fh.of (λ_ h=>h) TK⟩):G:=h
def ZgS:Yl Tryz.prog 237=some (1,some .nilFunc,8):=U
def UK(n:Nat):Nat->List Int->List (List Int)
 | 0,l=>[l]
 | r+1,l=>(List.range n).flatMap λ(i:Nat)=>if l.any (λz=>(i:Int) == z)then[]else UK n r (l++[(i:Int)])
def ZB(n:Nat):List (List Int):=UK n n []
def UA(l:List Int)(v:Value)(Hv:Hp):Prop:=∃A c,v=.slice A l.length c/\l.length<=c/\aF Hv v l/\(∀x y,Hv x=some y->y.2=true)/\(l≠[]->∃r rest,A=some ⟨r,0,none⟩/\Hv r=some (.cells (Zb l++rest).toArray 3 (0,0),true))
def Ui(xs:List α)(I:Nat->Hp->Prop)(rest:List α)(H:Hp):Prop:=∃p,p+rest.length=xs.length/\xs.drop p=rest/\I p H
def Ui.start{xs:List α}{H:Hp}(h:I 0 H):Ui xs I xs H:=⟨0,by simp,rfl,h⟩
def Ui.stop{xs:List α}{H:Hp}(h:Ui xs I [] H):I xs.length H:=by obtain⟨p,a,_,e⟩:=h;simp at a;rw[<-a];exact e
def ZnQ{xs rest:List α}(g:∀n,Up (I n)):Up (Ui xs I rest):=by rintro H J h ⟨p,a,e,f⟩;exact⟨p,a,e,g p H J h f⟩
def Ir(P:aX)(y:Value)(xs:List (List Int))(I:Nat->Hp->Prop)(S:Hp->Prop):Prop:=
 ∀n (e:n<xs.length) v Hv H,UA xs[n] v Hv->Hv.gh=[]->H.Comp Hv->I n H->ZV P y #[v] (H.join Hv) (λw a=>(w=.bool true/\I (n+1) a)\/(w=.bool false/\S a))
def Ui.call{P:aX}{x:List Int}{r:List (List Int)}{H:Hp}(u:Ir P y xs I S)(h:Ui xs I (x :: r) H)(t:UA x v Hv)(s:Hv.gh=[])(q:H.Comp Hv) :
  ZV P y #[v] (H.join Hv) (λw f=>(w=.bool true/\Ui xs I r f)\/(w=.bool false/\S f)):=by
 obtain⟨p,g,m,o⟩:=h;have a:p<xs.length:=by simp at g;omega
 have e:=qCc a;rw[m]at e;have j:x=xs[p]:=by injection e
 have k:xs.drop (p+1)=r:=by injection e with _ e;exact e.symm
 subst j;refine(u p a v Hv H t s q o).mono ?_;rintro w f (⟨rfl,h⟩ | ⟨rfl,h⟩)
 ·exact .inl ⟨rfl,p+1,by simp at g;omega,k,h⟩
 exact .inr ⟨rfl,h⟩
def JG.add{G:Hp}{A:Hp->Prop}{H:Hp}(h:JG G A H)(e:H.Comp Hv):JG (G.join Hv) A (H.join Hv):=by
 obtain⟨f,F,rfl,a,g,j⟩:=h;have c1:F.Comp Hv:=Hp.Comp.dH a e;refine⟨f,F.join Hv,Hp.dR _ _ _,a.join_r e.of_join_left,λb x hb=>?_,j⟩;cases hg:G b with
 | some y=>rw[Hp.aW hg]at hb;obtain rfl:=iO hb;exact Hp.aW (g _ _ hg)
 | none=>
  have:Hv b=some x:=by simpa[Hp.bH,hg]using hb
  exact Hp.bC c1 this
theorem ZuD[Enc α]{f H:Hp}{E:TypeId}{l:List α}{b:Option Nat}(k:f.Sub H)(o:dD f H E v l b):∃g Hv:Hp,H=g.join Hv/\g.Comp Hv/\Hv.gh=[]/\f.Sub g/\∃A c,v=.slice A l.length c/\l.length<=c/\aF Hv v l/\(∀x y,Hv x=some y->y.2=true)/\(l≠[]->∃r rest,A=some ⟨r,0,none⟩/\Hv r=some (.cells (Zb l++rest).toArray E (0,0),true)):=by
 obtain⟨B,⟨rfl,t,m⟩ | ⟨r,cap,rest,rfl,rfl,m,C,u⟩⟩:=id o.own
 ·have w:l=[]:=qAb t;subst w;exact⟨H,.nil,(Hp.eG H).symm,Hp.eQ H,rfl,k,none,0,rfl,dO _,⟨none,0,rfl,λh=>absurd rfl h⟩,λx y h=>by simp[Hp.nil]at h,λh=>absurd rfl h⟩
 have z:=o.fresh r rfl;refine⟨⟨λq=>if q=r then none else H q,H.gh⟩,Hp.nil.ins r (.cells (Zb l++rest).toArray E),Hp.ext' (λq=>?_) ?_,⟨λq x y a s=>?_,.inr rfl⟩,rfl,⟨λq x j=>?_,k.gh⟩,_,cap,rfl,u,⟨_,cap,rfl,λ_=>⟨_,rfl,YN (ZA (Hp.aG _ _ _))⟩⟩,λx y h=>?_,λ_=>⟨r,rest,rfl,Hp.aG _ _ _⟩⟩
 ·simp only[Hp.bH,Hp.eM];show H q=match (if q=r then none else H q)with | some x=>some x | none=>if q=r then _ else none
  by_cases e:q=r
  ·subst e;simp[m]
  simp only[e,qAw];cases H q<;>rfl
 ·rw[Hp.bZ];simp[Hp.ins,Hp.nil]
 ·have a:(if q=r then none else H q)=some x:=a;by_cases e:q=r
  ·rw[iF e]at a;simp at a
  rw[Hp.aH _ _ e]at s;simp[Hp.nil]at s
 ·show(if q=r then none else H q)=some x;rw[aT (by rintro rfl;rw[z]at j;simp at j)];exact k.mem _ _ j
 by_cases e:x=r
 ·subst e;rw[Hp.aG]at h;obtain rfl:=iO h;rfl
 rw[Hp.aH _ _ e]at h;simp[Hp.nil]at h
def LF(a f e:Nat):Value:=.func (.func 199) #[] #[pt a,pt f,pt e]
structure P3(G:Hp)(bc:List Value)(rb rn ry:Nat)(y:Value)(E1 E2 E3:TypeId):Prop where
 b:G rb=some (.cells bc.toArray E1,true)
 n:G rn=some (.cells #[LF rb ry rn] E2,true)
 y:G ry=some (.cells #[y] E3,true)
def P3.inc{G e:Hp}{f:List Value}{rb g j:Nat}(h:P3 G f rb g j y E1 E2 E3)(a:aL G e):P3 e f rb g j y E1 E2 E3:=⟨a _ _ h.b,a _ _ h.n,a _ _ h.y⟩
section
variable{P:aX}[Tz P][Loud P]{H:Hp}
def P5{l:List Int}(f:aF H v l)(g:l.length<=1000000):LL.Zc P 157 #[v] H λe a=>H.Sub a/\∃b,dD H a 3 e l b:=by
 refine LL.Zc.mono (Tq f g (Loud.aV _)) ?_;rintro e a ⟨s,(⟨rfl,rfl⟩ | h)⟩
 ·exact⟨s,none,.nil H _ 3⟩
 exact⟨s,h⟩
def Zsi(hI:∀n,Up (I n))(hS:Up S)(SZ:b.pk.length<=1000)(hy:Ir P y xs I S)(rb rn ry:Nat) :
  ∀(r:Nat) (l:List Int) (rest:List (List Int)) (G H Hv:Hp) (v:Value),l.length+r=b.pk.length->P3 G b.cs rb rn ry y E1 E2 E3->UA l v Hv->Hv.gh=[]->H.Comp Hv->JG G (Ui xs I (UK b.pk.length r l++rest)) H ->
   LL.Zc P 199 #[v,pt rb,pt ry,pt rn] (H.join Hv) λw Q=>(w=vb true/\JG G (Ui xs I rest) Q)\/(w=vb false/\JG G S Q):=by
 intro r
 induction r with
 | zero=>
  rintro l rest G H Hv v hr hf ⟨A,c,rfl,hc,zP,BI,TE⟩ hg k hj;rw[UK]at hj;refine aJ.m (bG Zm1) (args:=[.slice A l.length c,pt rb,pt ry,pt rn]) rfl ?_;unfold Kx;have hG:aL G (H.join Hv):=hj.inc.trans (Ue H Hv);refine Y ?_;refine Zh (OL _) rfl (Ux (j:=3) (ZA (hG _ _ hf.b)) rfl) ?_;refine OJ (λh1=>?_) (λh1=>?_);rotate_left
  ·exact absurd O h1
  refine Y ?_;refine Zh (OL _) rfl (ZA (hG _ _ hf.y)) (Y ?_);have q:JG G (λK=>∃M:Hp,K=M.join Hv/\M.Comp Hv/\Ui xs I ([l]++rest) M) (H.join Hv):=by obtain⟨M,F,rfl,q1,q2,q3⟩:=hj;have c1:M.Comp Hv:=k.of_join_left;have c2:F.Comp Hv:=Hp.Comp.dH q1 k;exact⟨M.join Hv,F,Hp.fS c2.symm,Hp.Comp.gU q1 c2.symm,q2,M,rfl,c1,q3⟩
  refine ZM (vs:=[.slice A l.length c]) rfl rfl (JG.call (B:=λw Q=>(w=.bool true/\Ui xs I rest Q)\/(w=.bool false/\S Q)) ?_ q) ?_
  ·rintro K ⟨M,rfl,q1,q2⟩;exact q2.call hy ⟨A,c,rfl,hc,zP,BI,TE⟩ hg q1
  rintro w H7 ⟨M,F,rfl,q1,q2,(⟨rfl,q3⟩ | ⟨rfl,q3⟩)⟩
  ·refine Y ?_;exact .inl ⟨rfl,M,F,rfl,q1,q2,q3⟩
  refine Y ?_;exact .inr ⟨rfl,M,F,rfl,q1,q2,q3⟩
 | succ r ih=>
  rintro l rest G H Hv v hr hf ⟨A,c,rfl,hc,zP,BI,TE⟩ hg k hj;rw[UK]at hj;refine aJ.m (bG Zm1) (args:=[.slice A l.length c,pt rb,pt ry,pt rn]) rfl ?_;unfold Kx;have TK:aL G (G.join Hv):=Ue G Hv;have HE:=hj.add k;have hGv:∀{K:Hp},aL (G.join Hv) K->aL G K:=λh=>TK.trans h;have Ec:∀{K:Hp} {A':Hp->Prop},JG (G.join Hv) A' K->aF K (.slice A l.length c) l:=λh=>by
   have S6:G.Comp Hv:=by obtain⟨M,F,rfl,q1,q2,_⟩:=hj;have:=Hp.Comp.dH q1 k;exact⟨λb x y h1 h2=>this.mem b x y (q2 _ _ h1) h2,.inr hg⟩
   exact aF.inc zP (λb x hb=>h.inc _ _ (Hp.bC S6 hb))
  generalize H.join Hv=H1 at *;have Fw:=hf.inc TK;have cb:∀{K:Hp} {A':Hp->Prop},JG (G.join Hv) A' K->aC K ⟨rb,0,none⟩ b.cs:=λh=>ZA (h.inc _ _ Fw.b);refine Y ?_;refine Zh (OL _) rfl (Ux (j:=3) (cb HE) rfl) ?_;refine OJ (λh1=>?_) (λh1=>?_)
  ·exact absurd h1 O
  refine Y ?_;refine Zh (OL _) rfl (Ux (j:=3) (cb HE) rfl) (Y ?_);refine Zv b.pk.length (λi Q=>JG (G.join Hv) (Ui xs I (((List.range b.pk.length).drop i).flatMap (λi:Nat=>if l.any (λz=>(i:Int) == z)then[]else UK b.pk.length r (l++[(i:Int)]))++rest)) Q)
   (λi=>[(0,.slice A l.length c),(1,pt rb),(2,pt ry),(3,pt rn),(20,vi b.pk.length),(21,vi i)]) (λ_=>[]) HE V trivial ?_
  rintro i H2 hi q;refine OJ (λh2=>?_) (λh2=>?_)
  ·have yL:i<(List.range b.pk.length).length:=by rw[qBF];omega
   have u:=Ec q;rw[yT yL,qCl,qAM,qAW]at q;have J:l.length<=1000000:=O;cases hc:l.any (λz=>(i:Int) == z)with
   | true=>
    rw[hc,iF rfl,qBt]at q;have f:=Im (P:=P) (n:=(i:Int)) u J;rw[hc]at f;refine Y ?_;refine Zi6 (OL _) ?_ ?_ ?_ ?_;all_goals
     refine Y ?_
     refine Za [.slice A l.length c,vi (i:Int)] f ?_
     rintro v _ ⟨rfl,rfl⟩
     refine Y ?_
     exact⟨⟨i+1,O⟩,bN O,q,V,trivial,rfl⟩
   | false=>
    rw[hc,aT (by decide)]at q;have f:=Im (P:=P) (n:=(i:Int)) u J;rw[hc]at f;have key:∀(L:Hp) (X:Value) (b':Option Nat),H2.Sub L->dD H2 L 3 X (l++[(i:Int)]) b'->ZV P (LF rb ry rn) #[X] L λw Q=>(w=vb true/\JG (G.join Hv) (Ui xs I (((List.range b.pk.length).drop (i+1)).flatMap (λi:Nat=>if l.any (λz=>(i:Int) == z)then[]else UK b.pk.length r (l++[(i:Int)]))++rest)) Q)\/(w=vb false/\JG (G.join Hv) S Q):=by intro L X b' W o4;obtain⟨H5,Hv5,rfl,c5,g5,s5,A5,PD,e5,le5,sl5,ow5,bk5⟩:=ZuD W o4;exact Yj U (ih (l++[(i:Int)]) _ (G.join Hv) H5 Hv5 X (by simp;omega) Fw ⟨A5,PD,e5,le5,sl5,ow5,bk5⟩ g5 c5 (q.sub s5))
    have cn:∀{K:Hp},H2.Sub K->aC K ⟨rn,0,none⟩ [LF rb ry rn]:=λh=>ZA ((q.sub h).inc _ _ Fw.n);refine Y ?_;refine Zi6 (OL _) ?_ ?_ ?_ ?_
    ·refine Y ?_;refine Za [.slice A l.length c,vi (i:Int)] f ?_;rintro v _ ⟨rfl,rfl⟩;refine Y ?_;refine Zh (OL _) rfl (cn ⟨λ_ _ h=>h,rfl⟩) (Y ?_);refine ZY (cs:=[vi (i:Int)]) (OL _) rfl λC s=>?_;refine XN (Yf s) ?_;have D:=Yf (o:=.cells (List.toArray [vi (i:Int)]) 3) s;have dN:aF (H2.ins C (.cells (List.toArray [vi (i:Int)]) 3)) (.slice (some ⟨C,0,none⟩) 1 1) [(i:Int)]:=Z0 (l:=[(i:Int)]);generalize H2.ins C (.cells (List.toArray [vi (i:Int)]) 3)=Z at *;refine Y ?_;refine Za [.slice A l.length c] (P5 (u.sub D) J) ?_;rintro X L ⟨W,bb,ow⟩;refine XN W ?_;have GC:H2.Sub L:=⟨λ_ _ h=>W.mem _ _ (D.mem _ _ h),W.gh.trans D.gh⟩;have o4:dD H2 L 3 X l bb:=⟨ow.own,λr e=>YL D.inc (ow.fresh r e)⟩;have GB:=dN.sub W;exact ZhV
    ·refine Y ?_;refine Za [.slice A l.length c,vi (i:Int)] f ?_;rintro v _ ⟨rfl,rfl⟩;refine Y ?_;refine Zh (OL _) rfl (cn ⟨λ_ _ h=>h,rfl⟩) (Y ?_);refine Za [.slice A l.length c] (P5 u J) ?_;rintro X Z ⟨D,bb,ow⟩;refine XN D (Y ?_);refine ZY (cs:=[vi (i:Int)]) (OL _) rfl λC s=>?_;refine XN (Yf s) ?_;have N:=Yf (o:=.cells (List.toArray [vi (i:Int)]) 3) s;have GB:aF (Z.ins C (.cells (List.toArray [vi (i:Int)]) 3)) (.slice (some ⟨C,0,none⟩) 1 1) [(i:Int)]:=Z0 (l:=[(i:Int)]);have o4:=ow.ins (o:=.cells (List.toArray [vi (i:Int)]) 3) s;have GC:H2.Sub (Z.ins C (.cells (List.toArray [vi (i:Int)]) 3)):=⟨λ_ _ h=>N.mem _ _ (D.mem _ _ h),N.gh.trans D.gh⟩;generalize Z.ins C (.cells (List.toArray [vi (i:Int)]) 3)=L at *;exact ZhV
    ·refine Y ?_;refine Za [.slice A l.length c,vi (i:Int)] f ?_;rintro v _ ⟨rfl,rfl⟩;refine Y ?_;refine ZY (cs:=[vi (i:Int)]) (OL _) rfl λC s=>?_;refine Zp OL ?_;have D:=Yf (o:=.cells (List.toArray [vi (i:Int)]) 3) s;have dN:aF (H2.ins C (.cells (List.toArray [vi (i:Int)]) 3)) (.slice (some ⟨C,0,none⟩) 1 1) [(i:Int)]:=Z0 (l:=[(i:Int)]);generalize H2.ins C (.cells (List.toArray [vi (i:Int)]) 3)=Z at *;refine Y ?_;refine Za [.slice A l.length c] (P5 (u.sub D) J) ?_;rintro X L ⟨W,bb,ow⟩;have GC:H2.Sub L:=⟨λ_ _ h=>W.mem _ _ (D.mem _ _ h),W.gh.trans D.gh⟩;have o4:dD H2 L 3 X l bb:=⟨ow.own,λr e=>YL D.inc (ow.fresh r e)⟩;have GB:=dN.sub W;exact ZhW
    refine Y ?_;refine Za [.slice A l.length c,vi (i:Int)] f ?_;rintro v _ ⟨rfl,rfl⟩;refine Y ?_;refine Za [.slice A l.length c] (P5 u J) ?_;rintro X Z ⟨D,bb,ow⟩;refine Zp OL (Y ?_);refine ZY (cs:=[vi (i:Int)]) (OL _) rfl λC s=>?_;have N:=Yf (o:=.cells (List.toArray [vi (i:Int)]) 3) s;have GB:aF (Z.ins C (.cells (List.toArray [vi (i:Int)]) 3)) (.slice (some ⟨C,0,none⟩) 1 1) [(i:Int)]:=Z0 (l:=[(i:Int)]);have o4:=ow.ins (o:=.cells (List.toArray [vi (i:Int)]) 3) s;have GC:H2.Sub (Z.ins C (.cells (List.toArray [vi (i:Int)]) 3)):=⟨λ_ _ h=>N.mem _ _ (D.mem _ _ h),N.gh.trans D.gh⟩;generalize Z.ins C (.cells (List.toArray [vi (i:Int)]) 3)=L at *;exact ZhW
  have:i=b.pk.length:=O;subst this;rw[qDN (by simp),qCp,qBt]at q;refine Y ?_;exact .inl ⟨rfl,q.of (λ_ h=>h) TK⟩
def ZyL(n:Nat)(k:Nat)(a:List Value)(Hv:Hp):Prop:=∃v,a=[v]/\∃h:k<(ZB n).length,UA (ZB n)[k] v Hv
def Zsl(C:b.pk.length<=1000):KY P (.func (.func 152) #[b.v] #[]) (λ_=>True) (ZB b.pk.length).length (ZyL b.pk.length):=by
 rintro y I S H ⟨yf,ya,yb,J⟩ K L hN hr s;have hy:Ir P y (ZB b.pk.length) I S:=λn N v Hv H Z W V X=>hr n N [v] Hv H ⟨v,rfl,N,Z⟩ W V X;have F:y.cells=#[y]:=by rw[J];rfl
 refine Yj U ?_;refine aJ.m (bG ZwV) (args:=[b.v,y]) rfl ?_;unfold Zki Sb.v;have u:JG .nil (Ui (ZB b.pk.length) I (UK b.pk.length b.pk.length []++[])) H:=⟨H,.nil,(Hp.eG H).symm,Hp.eQ H,λb x h=>by simp[Hp.nil]at h,by rw[qAf];exact .start s⟩;refine Y ?_;refine V9 rfl (OL _) λg D=>?_;have w:=u.new (.cells b.v.cells 108) D;refine Y ?_;refine V9 rfl (OL _) λj k=>?_;have z:=w.new (.cells y.cells 237) k;refine Y ?_;refine Vt (cD ZgS) (OL _) λf e=>?_;have B:=z.new (.cells (Value.nilFunc).cells 237) e;have O:j≠g:=by rintro rfl;rw[Hp.aG]at k;simp at k
 have Q:f≠j:=by rintro rfl;rw[Hp.aG]at e;simp at e
 have R:f≠g:=by rintro rfl;rw[Hp.aH _ _ (qAF O),Hp.aG]at e;simp at e
 refine Y ?_;refine VQ rfl rfl (Y ?_);refine Vq (v:=LF g j f) (cD ZgS) rfl rfl (Hp.aG _ _ _) rfl rfl (OL _) ?_;have r:=B.put (.cells #[LF g j f] 237) (Hp.aG _ _ _);have M:P3 ((((Hp.nil.ins g (.cells b.v.cells 108)).ins j (.cells y.cells 237)).ins f (.cells (Value.nilFunc).cells 237)).ins f (.cells #[LF g j f] 237)) b.cs g f j y 108 237 237:=by
  refine⟨?_,Hp.aG _ _ _,?_⟩
  ·rw[Hp.aH _ _ (qAF R),Hp.aH _ _ (qAF R),Hp.aH _ _ (qAF O)];exact Hp.aG _ _ _
  rw[Hp.aH _ _ (qAF Q),Hp.aH _ _ (qAF Q),<-F];exact Hp.aG _ _ _
 refine Y ?_;refine Zh (OL _) rfl (ZA (r.inc _ _ M.n)) (Y ?_);have a:=Zsi K L C hy g f j b.pk.length [] [] _ _ .nil (.slice none 0 0) (by simp) M ⟨none,0,rfl,dO _,⟨none,0,rfl,λh=>absurd rfl h⟩,λx y h=>by simp[Hp.nil]at h,λh=>absurd rfl h⟩ rfl (Hp.eQ _) r;rw[Hp.eG]at a;refine ZM (vs:=[.slice none 0 0]) rfl rfl (Yj U a) ?_;rintro v H7 (⟨rfl,t⟩ | ⟨rfl,t⟩)
 ·refine Y ?_;exact .inl (t.up (ZnQ K)).stop
 refine Y ?_;exact .inr (t.up L)
end
end
end Go.Proofs
end
section
open Go Go.LL
namespace Go.LL
def Kn(p:Program):aX:={ toProgram:=p,still:=λ_=>false,stillNil:=λ_ _=>rfl,toEnv:=Env.lone }
def Ja{P:aX}{f:FuncId}{args:Array Value}{H:Hp}{a:Value->Hp->Prop}(r:P.still H.gh=false)(s:∀v K J,K.Comp J->a v K->a v (K.join J))(h:Zc (Kn P.toProgram) f args H a):Zc P f args H λv j=>a v j/\j.gh=H.gh:=by
 intro G c u U O;have Q:=h (λg e K=>∃v,g=c.finish v/\e=u/\a v K) c u (λg e K J R ⟨v,C,D,F⟩=>⟨v,C,D,s v K J R F⟩) (λv j t=>.stop ⟨v,rfl,rfl,t⟩);refine Q (λg e K=>K.gh=H.gh->Reach P G g e K) ?_ ?_ ?_ rfl
 ·rintro g e K ⟨v,rfl,rfl,t⟩ m;exact O v K ⟨t,m⟩
 ·rintro g e K q m;refine .step ⟨λmain w V=>?_,λB=>?_⟩
  ·obtain⟨o,k,W,j,es,L,z,M,N⟩:=q.1 main w V;exact⟨o,k,W,j,es,L,z,M (z.gh.trans m),N⟩
  rw[m,r]at B;simp at B
 intro g e K q;exact q.elim
end Go.LL
end
open Go Go.LL
namespace Go.Proofs
noncomputable abbrev PL:aX:=Kn Tryz.prog
noncomputable instance:Tz PL:=⟨rfl⟩
noncomputable instance:Loud PL:=⟨λ_=>rfl⟩
variable{b:Sb}{ts:List N4}{p:List Int}{n c cw i:Nat}{P:aX}{H:Hp}{A Aw:Option Addr}{l:List Nat}
noncomputable instance (c:Cx)(i:Nat):Tz (pw c i):=⟨rfl⟩
def ZX(n m:Nat):List Int:=(ZB n).getD (m-1) []
def UM(b:Sb)(ts:List N4)(m:Nat):Bool:=decide (1<=m) && decide (fN (cG b ts (ZX b.pk.length m)).good ts.length=1)
structure Te where
 (td:Td) (A:Option Addr) (n c:Nat)
instance:Enc Te:=⟨8,λe=>e.td.cs (.slice e.A e.n e.c),λ_=>rfl⟩
structure UB(b:Sb)(ts:List N4)(p:List Int)(e:Te)(Hl:Hp):Prop where
 td:e.td=cG b ts p
 n:e.n=p.length
 c:p.length<=e.c
 bk:∃r rest,e.A=some ⟨r,0,none⟩/\Hl r=some (.cells (Zb p++rest).toArray 3 (0,0),true)
def UB.sl{e:Te}{a:Hp}(h:UB b ts p e a):aF a (.slice e.A e.n e.c) p:=by obtain⟨r,rest,f,g⟩:=h.bk;exact⟨e.A,e.c,by rw[h.n],λ_=>⟨_,f,YN (ZA g)⟩⟩
structure R8(b:Sb)(ts:List N4)(rF:Nat)(v:Value)(bb:Option Nat)(es:List Te)(l:List Nat)(Hl:Hp):Prop where
 at_:Hl rF=some (.cells #[v] 130,true)
 own:jN Hl 122 8 v (Zb es) es.length bb
 ne:bb≠some rF
 all:∀x y,Hl x=some y->y.2=true
 len:es.length=l.length
 fit:∀k (h1:k<l.length) (h2:k<es.length),UB b ts (ZX b.pk.length l[k]) es[k] Hl
 nd:l.Nodup
 rg:∀m∈l,1<=m/\m<=(ZB b.pk.length).length
def QV(b:Sb)(ts:List N4)(f:Nat)(l:List Nat)(a:Hp):Prop:=∃v e es,R8 b ts f v e es l a
def ZgK:Tryz.prog.underlying 130=some (.slice 122):=U
def ZgV:Yl Tryz.prog 130=some (1,some (.slice none 0 0),24):=U
def ZgW:Yl Tryz.prog 122=some (8,some (.agg #[.slice none 0 0,vi 0,vi 0,vi 0,vi 0,vi 0,vi 0,vi 0]),80):=U
def rO:Yl Tryz.prog 26=some (1,some (.slice none 0 0),24):=U
def Ta(p:Program)(t:TypeId):Option TypeId:=match p.underlying t with | some (.chan _ e)=>some e | _=>none
def Zvz{p:Program}{t e:TypeId}(h:Ta p t=some e):∃d,p.underlying t=some (.chan d e):=by unfold Ta at h;split at h<;>simp only[qAe,reduceCtorEq]at h;subst h;exact⟨_,‹_›⟩
def ZgH:∃d,Tryz.prog.underlying 179=some (.chan d 26):=Zvz U
def WV:∀(N:Nat) (l:List Nat),l.Nodup->(∀m∈l,1<=m/\m<=N)->l.length<=N
 | 0,l,_,h=>by
  cases l with
  | nil=>simp
  | cons x l=>have:=h x (qBv ..);omega
 | N+1,l,e,h=>by
  by_cases g:N+1∈l
  ·have k:=WV N (l.erase (N+1)) (e.erase _) λj a=>by obtain⟨o,f⟩:=(e.mem_erase_iff).1 a;have:=h j f;omega
   rw[List.length_erase_of_mem g]at k;omega
  have:=WV N l e λj a=>by
   have f:=h j a;have:j≠N+1:=by rintro rfl;exact g a
   omega
  omega
def Zsk:(ZB 1).length<=24/\(ZB 2).length<=24/\(ZB 3).length<=24/\(ZB 4).length<=24:=by decide +kernel
def CZ(h:1<=n/\n<=4):(ZB n).length<=24:=by obtain⟨a,e,f,g⟩:=Zsk;have:n=1\/n=2\/n=3\/n=4:=O;rcases this with rfl | rfl | rfl | rfl<;>assumption
def Zig{n:Nat}:∀(r:Nat) (l p:List Int),p∈UK n r l->(∀z∈l,0<=z/\z<n)->p.length=l.length+r/\∀z∈p,0<=z/\z<n
 | 0,l,p,h,e=>by obtain rfl:=oR.1 h;exact⟨rfl,e⟩
 | r+1,l,p,h,e=>by
  rw[UK,qDr]at h;obtain⟨i,j,h⟩:=h;split at h
  ·simp at h
  obtain⟨f,g⟩:=Zig r _ p h (λz a=>by
   rcases qAi.1 a with a | a
   ·exact e z a
   obtain rfl:=oR.1 a;have:=qAl.1 j;omega)
  exact⟨by rw[f];simp;omega,g⟩
def CW(h:p∈ZB n):p.length=n/\∀z∈p,0<=z/\z<n:=by obtain⟨a,e⟩:=Zig n [] p h (by simp);exact⟨by simpa using a,e⟩
section
def ZnZ[Tz P](m:P.toProgram=Tryz.prog)(g:P.still H.gh=false){l:List Int}(hb:Zr H b)(ok:bA b)(o:aC H ⟨1,0,none⟩ [vf 284])(j:aF H (.slice Aw ts.length cw) ts)(a:1<=ts.length/\ts.length<=1000)(r:∀t∈ts,Yp t)
  (q:aF H (.slice A l.length c) l) (e:l.length=b.pk.length) (f:∀z∈l,0<=z/\z<b.pk.length) :
  LL.Zc P 93 #[ZU b (.slice Aw ts.length cw),.slice A l.length c] H λv k=>(aL H k/\v=AF (cG b ts l) (.slice A l.length c))/\k.gh=H.gh:=by
 refine Ja g (λv K J s h=>⟨h.1.trans (Ue _ _),h.2⟩) ?_;rw[m];exact Bb (P:=PL) hb ok o j a r q e f
def Zoo[Tz P](j:P.toProgram=Tryz.prog)(f:P.still H.gh=false)(j0:Int):LL.Zc P 97 #[ZU b (.slice A n c),vi j0] H λv a=>(aL H a/\v=vi (fN j0 n))/\a.gh=H.gh:=by refine Ja f (λv K J k h=>⟨h.1.trans (Ue _ _),h.2⟩) ?_;rw[j];exact LL.Zc.mono (Mi (P:=PL) j0) λv a ⟨e,g⟩=>⟨e ▸ .refl _,g⟩
end
def LN{c:Cx}(h:H.cg=l)(e:1<=cd l/\cd l<=19):(pw c i).still H.gh=false:=by
 subst h;show((H.gh.headD 0 == 0) || (decide (20<=cd (ZN H.gh)) && decide (cd (ZN H.gh)<=24)))=false;unfold Hp.cg at e;generalize H.gh=g at *;match g with
 | []=>simp[ZN,cd]at e
 | 0 :: t=>simp[ZN,cd]at e
 | (n+1) :: t=>
  simp only[List.headD_cons];rw[show((n+1 == 0)=false)from by simp,Bool.false_or];simp;omega
def LW(h:H.gh=(n+1) :: l):H.cg=l/\H.hd=n:=by unfold Hp.cg Hp.hd;rw[h];exact⟨rfl,rfl⟩
section
theorem Zok{c:Cx}(ok:c.Ok){rF rC r1:Nat}(val:bA b)(tZ:1<=ts.length/\ts.length<=1000)(vL:∀t∈ts,Yp t)
  (Tc:c.PI=QV b ts rF) (cN:c.N=(ZB b.pk.length).length) (Q:c.need=UM b ts) (EE:c.msg=λm v u=>UA (ZX b.pk.length m) v u)
   (hg:H.gh=[1,1]) (hC:aC H ⟨rC,0,none⟩ [.chan (some c.ch)]) (h1:aC H ⟨r1,0,none⟩ [vi b.pl,vi b.hd,vi b.td,.slice b.A1 b.pk.length b.c1,.slice b.A2 b.nt.length b.c2,.slice Aw ts.length cw])
  (hb:Zr H b) (hw:aF H (.slice Aw ts.length cw) ts) (zS:aC H ⟨1,0,none⟩ [vf 284]) :
  Y2 (pw c i) .deferred 148 #[ptr c.W,pt rC,pt r1,ptr c.M,pt rF] H λ_ H'=>H'.gh=lv 0:=by
 have tC:(pw c i).still H.gh=false:=by rw[hg];rfl
 have hN:=CZ val.n;obtain⟨PB,hu⟩:=ZgH;refine aJ.mK (P:=pw c i) (.inr rfl) ZwX (args:=[ptr c.W,pt rC,pt r1,ptr c.M,pt rF]) rfl ?_;unfold Zkk;refine Y ?_;refine Jg (vs:=[ptr c.W]) rfl (Y ?_);refine Zh tC rfl hC (Y ?_);refine RJ (ι:=Nat) (λh H'=>aL H H'/\H'.hd=h/\h<=c.N/\((H'.cg=[1]/\c.need h=false)\/H'.cg=[19])) (λh=>c.N-h) (λ_=>[(0,ptr c.W),(1,pt rC),(2,pt r1),(3,ptr c.M),(4,pt rF),(7,.chan (some c.ch))]) (λ_=>[]) 0
  ⟨.refl H,by unfold Hp.hd;rw[hg];rfl,qAI _,.inl ⟨by unfold Hp.cg;rw[hg];rfl,ok.SI⟩⟩ V trivial ?_
 rintro h H1 ⟨i1,e1,e2,e3⟩;have st1:(pw c i).still H1.gh=false:=by
  rcases e3 with⟨e,_⟩ | e
  ·exact LN e (by simp[cd])
  exact LN e (by simp[cd])
 refine Y ?_;refine ZsT (p:=Tryz.prog) hu (ZgP rO) (by rw[e1];exact e3) rfl (λm v u Fs yN m1 m2 m3 hm=>?_) ?_
 ·rw[e1]at m3;rw[EE]at hm;obtain⟨A,cp,rfl,hcp,zP,BI,TE⟩:=hm;have Er:ZX b.pk.length m∈ZB b.pk.length:=by unfold ZX;rw[ZD O];exact bY _
  obtain⟨Cz,pl2⟩:=CW Er;have pK:ZX b.pk.length m≠[]:=by intro e;rw[e]at Cz;have:=val.n;simp at Cz;omega
  obtain⟨X,rest,rfl,J8⟩:=TE pK;have hc:H1.Comp u:=⟨yN,.inr Fs⟩;have mK:∀x y,u x=some y->((H1.join u).tagged ((m+1) :: [1])) x=some y:=λx y h=>Hp.bC hc h;have iK:aL H ((H1.join u).tagged ((m+1) :: [1])):=λx y h=>Hp.aW (i1 _ _ h);have gK:((H1.join u).tagged ((m+1) :: [1])).gh=(m+1) :: [1]:=rfl;have dK:∀x y,H x=some y->u x=none:=λx y h=>by
   cases hh:u x with
   | none=>rfl
   | some z=>
    obtain⟨e4,e5⟩:=yN x y z (i1 _ _ h) hh;have:=BI x z hh;rw[e4,this]at e5;simp at e5
  generalize(H1.join u).tagged ((m+1) :: [1])=K at *;have slK:=zP.inc (H':=K) (λx y h=>mK x y h);have tn:=Mn (b:=b) (ts:=ts) (l:=ZX b.pk.length m) ts.length (dO _);generalize hp:ZX b.pk.length m=p at *;have Cc:(pw c i).still K.gh=false:=LN (LW gK).1 (by simp[cd]);refine Y ?_;refine Zn (cs:=[vi b.pl,vi b.hd,vi b.td,.slice b.A1 b.pk.length b.c1,.slice b.A2 b.nt.length b.c2,.slice Aw ts.length cw]) Cc rfl (h1.inc iK) rfl (Y ?_);refine ZW (vs:=[ZU b (.slice Aw ts.length cw),.slice (some ⟨X,0,none⟩) p.length cp]) rfl (ZnZ rfl Cc (hb.inc iK) val (zS.inc iK) (hw.inc iK) tZ vL slK Cz pl2) ?_;rintro v H2 ⟨⟨i2,rfl⟩,g2⟩;have J2:(pw c i).still H2.gh=false:=by rw[g2];exact Cc
  refine Y ?_;refine Zn (cs:=[vi b.pl,vi b.hd,vi b.td,.slice b.A1 b.pk.length b.c1,.slice b.A2 b.nt.length b.c2,.slice Aw ts.length cw]) J2 rfl ((h1.inc iK).inc i2) rfl (Y ?_);refine ZW (vs:=[ZU b (.slice Aw ts.length cw),vi (cG b ts p).good]) rfl (Zoo rfl J2 _) ?_;rintro v J ⟨⟨i3,rfl⟩,g3⟩;have g3':J.gh=(m+1) :: [1]:=g3.trans (g2.trans gK);obtain⟨Tb,S9⟩:=LW g3';have Ql:aL H J:=(iK.trans i2).trans i3;have m3:∀x y,u x=some y->J x=some y:=λx y h=>i3 _ _ (i2 _ _ (mK x y h));refine OJ (λh4=>?_) (λh4=>?_)
  ·have hn:c.need m=true:=by rw[Q,UM,hp];simp[h4,m1]
   refine Y ?_
   refine ZW (vs:=[ptr c.M]) rfl (ZtW ok (by rw[S9];exact hn) Tb) ?_
   rintro v _ ⟨l,L,D5,Sc,_,yK,R,rfl⟩
   rw[S9]at Sc
   rw[Tc]at D5
   obtain⟨fv,bb,es,a⟩:=D5
   have hJ:∀x y,L x=some y->((J.tagc (12 :: l)).join L) x=some y:=λx y h=>Hp.bC R h
   have i4:aL J ((J.tagc (12 :: l)).join L):=λx y h=>Hp.aW h
   have g4:((J.tagc (12 :: l)).join L).gh=(m+1) :: 12 :: l:=by rw[Hp.bZ,yK,qAf];show(J.hd+1) :: 12 :: l=_;rw[S9]
   have dL:∀x y,J x=some y->L x=none:=λx y h=>by
    cases hh:L x with
    | none=>rfl
    | some z=>
     obtain⟨e4,e5⟩:=R.mem x y z h hh;have:=a.all x z hh;rw[e4,this]at e5;simp at e5
   generalize(J.tagc (12 :: l)).join L=H4 at *
   have Ny:(pw c i).still H4.gh=false:=LN (LW g4).1 (by simp[cd])
   have Ro:l.length<=24:=qAz (WV _ l a.nd a.rg) hN
   have S8:=a.len
   refine Y ?_
   refine Zh Ny rfl (ZA (hJ _ _ a.at_)) ?_
   refine Y ?_
   refine ZY (cs:=(cG b ts p).cs (.slice (some ⟨X,0,none⟩) p.length cp)) Ny rfl λr7 J9=>?_
   have i5:=Zs (o:=.cells ((cG b ts p).cs (.slice (some ⟨X,0,none⟩) p.length cp)).toArray 122) J9
   have g5:(H4.ins r7 (.cells ((cG b ts p).cs (.slice (some ⟨X,0,none⟩) p.length cp)).toArray 122)).gh=(m+1) :: 12 :: l:=g4
   have c7:aC (H4.ins r7 (.cells ((cG b ts p).cs (.slice (some ⟨X,0,none⟩) p.length cp)).toArray 122)) ⟨r7,0,none⟩ ((cG b ts p).cs (.slice (some ⟨X,0,none⟩) p.length cp)):=VK
   generalize H4.ins r7 (.cells ((cG b ts p).cs (.slice (some ⟨X,0,none⟩) p.length cp)).toArray 122)=H5 at *
   have DQ:(pw c i).still H5.gh=false:=LN (LW g5).1 (by simp[cd])
   have o5:jN H5 122 8 fv (Zb es) es.length bb:=a.own.sub λx y _ h=>i5 _ _ (hJ _ _ h)
   have f5:=i5 _ _ (hJ _ _ a.at_)
   have SP:aL J H5:=i4.trans i5
   refine Y ?_
   refine QQ (m:=1) (xs:=(cG b ts p).cs (.slice (some ⟨X,0,none⟩) p.length cp)) (bI ZgK) (bI ZgK) (cD ZgW) rfl (by decide) rfl rfl o5 (.inr ⟨_,1,rfl,c7⟩) rfl rfl O (by decide) DQ λv' H6 b' o6 ch=>?_
   have f6:=ch.keep _ _ f5 a.ne
   have g6:H6.gh=(m+1) :: 12 :: l:=ch.gh.trans g5
   have st6:(pw c i).still H6.gh=false:=LN (LW g6).1 (by simp[cd])
   have M8:b'≠some rF:=by
    rcases ch.new with rfl | ⟨r,rfl,hr⟩
    ·exact a.ne
    intro e;obtain rfl:=iO e;rw[f5]at hr;simp at hr
   obtain⟨A',c',ev,_⟩:=o6.cells
   subst ev
   refine Y ?_
   refine Vq (cD ZgV) rfl rfl f6 rfl rfl st6 ?_
   obtain⟨e',Sg⟩:∃e':Te,e'=⟨cG b ts p,some ⟨X,0,none⟩,p.length,cp⟩:=⟨_,rfl⟩
   have o7:jN (H6.ins rF (.cells #[.slice A' (es.length+1) c'] 130)) 122 8 (.slice A' (es.length+1) c') (Zb (es++[e'])) (es++[e']).length b':=by
    have e9:Zb (es++[e'])=Zb es++(cG b ts p).cs (.slice (some ⟨X,0,none⟩) p.length cp):=by rw[IK,Sg];simp[Zb,Enc.enc]
    rw[e9,BY,qAA];refine o6.sub λx y e h=>?_;rw[Hp.aH _ _ (by rintro rfl;exact M8 e)];exact h
   have f7:(H6.ins rF (.cells #[.slice A' (es.length+1) c'] 130)) rF=some (.cells #[.slice A' (es.length+1) c'] 130,true):=Hp.aG _ _ _
   have g7:(H6.ins rF (.cells #[.slice A' (es.length+1) c'] 130)).gh=(m+1) :: 12 :: l:=g6
   have k7:∀x y,x≠rF->H5 x=some y->bb≠some x->(H6.ins rF (.cells #[.slice A' (es.length+1) c'] 130)) x=some y:=λx y hx h1 h2=>by rw[Hp.aH _ _ hx];exact ch.keep _ _ h1 h2
   generalize H6.ins rF (.cells #[.slice A' (es.length+1) c'] 130)=H7 at *
   have TF:∀x,bb=some x->∃cs,L x=some (.cells cs 122 (0,0),true):=λx hx=>by
    obtain⟨_,⟨_,_,e⟩ | ⟨r,cap,F,e,_,h9,_⟩⟩:=a.own
    ·rw[hx]at e;simp at e
    rw[hx]at e;obtain rfl:=iO e;exact⟨_,h9⟩
   have zX:∀x y,J x=some y->bb≠some x:=λx y h e=>by obtain⟨cs,h9⟩:=TF x e;rw[dL x y h]at h9;simp at h9
   have Sn:∀x y,J x=some y->x≠rF:=λx y h e=>by subst e;have:=dL _ _ h;rw[a.at_]at this;simp at this
   have k3:∀x y,J x=some y->H7 x=some y:=λx y h=>k7 x y (Sn x y h) (SP _ _ h) (zX x y h)
   let D:Nat->Prop:=λx=>x=rF\/b'=some x\/((L x).isSome=true/\bb≠some x)\/(u x).isSome=true
   have hD:∀x,D x=(x=rF\/b'=some x\/((L x).isSome=true/\bb≠some x)\/(u x).isSome=true):=λx=>rfl
   let w:Hp:=⟨λx=>if x=rF\/b'=some x\/((L x).isSome=true/\bb≠some x)\/(u x).isSome=true then none else H7 x,(m+1) :: 12 :: l⟩
   let B:Hp:=⟨λx=>if x=rF\/b'=some x\/((L x).isSome=true/\bb≠some x)\/(u x).isSome=true then H7 x else none,[]⟩
   have h0:∀x,w x=if D x then none else H7 x:=λx=>rfl
   have CQ:∀x,B x=if D x then H7 x else none:=λx=>rfl
   have hj:H7=w.join B:=by
    refine Hp.ext' (λx=>?_) (by rw[g7,Hp.bZ];simp[w,B]);rw[Hp.bH,h0,CQ];by_cases e:D x
    ·simp[e]
    simp only[e,qAw];cases H7 x<;>rfl
   have NW:w.Comp B:=⟨λx y z j hz=>by
    rw[h0]at j;rw[CQ]at hz;by_cases e:D x
    ·rw[iF e]at j;simp at j
    rw[aT e]at hz;simp at hz,.inr rfl⟩
   have SE:∀x y,D x->H7 x=some y->B x=some y:=λx y e h=>by rw[CQ,iF e];exact h
   have NY:∀r cs,L r=some (.cells cs 3 (0,0),true)->D r/\H7 r=some (.cells cs 3 (0,0),true):=λr cs h=>by
    have q1:bb≠some r:=λe=>by obtain⟨jX,h9⟩:=TF r e;rw[h]at h9;simp at h9
    have q2:r≠rF:=by rintro rfl;have:=a.at_;rw[h]at this;simp at this
    exact⟨.inr (.inr (.inl ⟨by rw[h];rfl,q1⟩)),k7 r _ q2 (i5 _ _ (hJ _ _ h)) q1⟩
   have Es:c.PI (l++[m]) B:=by
    rw[Tc];refine⟨_,b',es++[e'],⟨SE _ _ (.inl rfl) f7,o7.sub λx y e h=>SE _ _ (.inr (.inl e)) h,M8,λx y j=>?_,by rw[BY,BY,S8];rfl,λk k1 k2=>?_,?_,λq hq=>?_⟩⟩
    ·rw[CQ]at j;by_cases e:D x
     ·rw[iF e]at j;rcases e with rfl | e | ⟨e,e8⟩ | e
      ·rw[f7]at j;obtain rfl:=iO j;rfl
      ·obtain⟨_,⟨_,_,q⟩ | ⟨r,cap,F,q,_,h9,_⟩⟩:=o7
       ·rw[e]at q;simp at q
       rw[e]at q;obtain rfl:=iO q;rw[h9]at j;obtain rfl:=iO j;rfl
      ·obtain⟨z,hz⟩:=qCj.1 e;by_cases ex:x=rF
       ·subst ex;rw[f7]at j;obtain rfl:=iO j;rfl
       have:=k7 x z ex (i5 _ _ (hJ _ _ hz)) e8;rw[this]at j;obtain rfl:=iO j;exact a.all x _ hz
      obtain⟨z,hz⟩:=qCj.1 e;have:=k3 x z (m3 _ _ hz);rw[this]at j;obtain rfl:=iO j;exact BI x _ hz
     rw[aT e]at j;simp at j
    ·by_cases hk:k<l.length
     ·have q1:(l++[m])[k]=l[k]:=qAp hk;have q2:(es++[e'])[k]=es[k]'O:=qAp O;rw[q1,q2];obtain⟨a1,a2,a3,r,F,a4,a5⟩:=a.fit k hk O;obtain⟨a6,a7⟩:=NY r _ a5;exact⟨a1,a2,a3,r,F,a4,SE _ _ a6 a7⟩
     have Rw:k=l.length:=by simp at k1;omega
     subst Rw;have q1:(l++[m])[l.length]=m:=by simp
     have q2:(es++[e'])[l.length]=e':=by simp[<-S8]
     rw[q1,q2,hp,Sg];exact⟨rfl,rfl,hcp,X,rest,rfl,SE _ _ (.inr (.inr (.inr (by rw[J8];rfl)))) (k3 _ _ (m3 _ _ J8))⟩
    ·rw[qBV];exact⟨a.nd,by simp,λx hx y j=>by rw[oR.1 j];rintro rfl;exact Sc hx⟩
    rcases qAi.1 hq with hq | hq
    ·exact a.rg q hq
    rw[oR.1 hq];omega
   have iH0:aL H w:=λx y h=>by
    have h3:=Ql _ _ h;rw[h0,aT]
    ·exact k3 _ _ h3
    rintro(e | e | ⟨e,_⟩ | e)
    ·exact Sn x y h3 e
    ·rcases ch.new with rfl | ⟨r,rfl,hr⟩
     ·exact zX x y h3 e
     obtain rfl:=iO e;rw[SP _ _ h3]at hr;simp at hr
    ·rw[dL x y h3]at e;simp at e
    rw[dK x y h]at e;simp at e
   have gp0:w.gh=(m+1) :: 12 :: l:=rfl
   clear_value w B
   obtain⟨cg0,hd0⟩:=LW gp0
   refine Y ?_
   rw[hj]
   refine ZW (vs:=[ptr c.M]) rfl (ZnR ok (kd:=.normal) (.inl rfl) NW cg0 (by rw[hd0];exact Es)).pD ?_
   rintro v _ rfl
   refine Y ?_
   exact⟨m,O,⟨iH0,hd0,m2,.inr rfl⟩,V,trivial,rfl⟩
  have hn:c.need m=false:=by rw[Q,UM,hp];simp[h4]
  refine Y ?_;exact⟨m,O,⟨Ql,S9,m2,.inl ⟨Tb,hn⟩⟩,V,trivial,rfl⟩
 refine Y ?_;refine Ks rfl rfl ?_;refine Zth (P:=pw c i) Tryz.func149 rfl rfl ?_;exact Y2.mono (Zvg ok (kd:=.deferred) (.inr rfl) (H:=H1.tagged [1,19,1]) rfl) λv H' e=>by rw[e];rfl
end
