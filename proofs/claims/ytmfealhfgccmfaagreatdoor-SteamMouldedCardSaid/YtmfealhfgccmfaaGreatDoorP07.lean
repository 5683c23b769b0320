import Derived.Test.YtmfealhfgccmfaaGreatDoorP01
import Derived.Test.YtmfealhfgccmfaaGreatDoorP04
import Derived.Test.YtmfealhfgccmfaaGreatDoorP06
import Derived.Conc.Beside
import Derived.Conc.MuSpec
import Derived.Conc.CrowdComm
set_option linter.all false
def T6{G:Prop}(h:G:=by
  rw[qAn];intro y hy;simp only[Op.operands,Call.operands]at hy;simp only[qAf]at h2;simp only[qBa,qAt,qBe,qAk,iO,qAS]at hy h2;rcases hy with rfl | hy
  ·rw[e];rfl
  exact h2 y hy):G:=h
def T1{G:Prop}(h:G:=by
  intro Q g hq;rcases hw with⟨rfl,A,c,rfl⟩ | ⟨a,c,rfl,hc⟩
  ·have:xs=[]:=qAr (by simpa using hl);subst this;cases A<;>simpa[Builtin.firstCells,Zj,loadCells,loadCellsFrom]using hq
  simp only[Builtin.firstCells];exact XB nO hc hq hl):G:=h
def AZ{G:Prop}(h:G:=by
  intro Q hq;unfold askRoom;split
  ·exact⟨.inr ⟨rfl,nO⟩,hq⟩
  exact hq):G:=h
namespace Go.LL
section
variable{t e E sT T t2:TypeId}{sz b len iS i gQ r cap lo:Nat}{o:Op}{s:Sem Value}{xs:Array Operand}{ts:Array TypeId}{vs cs:List Value}{zv w:Value}{k k2:IntKind}{n m:Int}{a:Addr}
structure TI(p:Program)(t:TypeId)(sz:Nat)(z:Value)(gQ:Nat):Prop where
 ex:∃i,p.info? t=some i/\i.size=sz/\i.zero=some z/\i.bytes=gQ
def Yw(p:Program)(t:TypeId):Option (Nat×Option Value×Nat):=(p.info? t).map λi=>(i.size,i.zero,i.bytes)
def ZgI{p:Program}{z:Value}(h:Yw p t=some (sz,some z,b)):TI p t sz z b:=by unfold Yw at h;rw[qAD]at h;obtain⟨i,f,c⟩:=h;simp only[qAX]at c;exact⟨i,f,c.1,c.2.1,c.2.2⟩
section
variable{P:fP}{d:Option Nat}{next:fG->Hp->Prop}{σ:fG}{H:Hp}{x y z:Operand}{v:Value}{ty:TypeId}
def YX(f:(o.operands.all λx=>(σ.get x).isSome)=true)(e:execOp (λx=>(σ.get x).getD undef) (fL o ty)=(do let v <-s;pure (.value v)))(h:fZ P s (λv _ c=>next (σ.set d v) c) false H):(fR.raw o ty).m P d next σ H:=by refine⟨f,.inl ?_⟩;rw[e,Zf];exact Vx (λv g H h=>(.inr h:_\/_)) h
def Zid(f:(o.operands.all λx=>(σ.get x).isSome)=true){s:Sem Unit}(e:execOp (λx=>(σ.get x).getD undef) (fL o ty)=(do s;pure .skip))(h:fZ P s (λ_ _ c=>next (σ.set d undef) c) false H):(fR.raw o ty).m P d next σ H:=by refine⟨f,.inl ?_⟩;rw[e,Zf];exact Vx (λv g H h=>(.inr h:_\/_)) h
def Zs3{x:Operand}{v:Value}(e:σ.get x=some v)(c:σ.gets xs.toList=some vs):((Op.call { callee:=.value x,args:=xs,argTypes:=ts }).operands.all λx=>(σ.get x).isSome)=true:=by have h2:=(Ol c).2;exact T6
def ZP{A:Value}{c:Value->Hp->Prop}(e:σ.get x=some A)(B:σ.gets xs.toList=some vs)(h:Z5 P A vs.toArray H c)(q:∀v u,c v u->next (σ.set d v) u) :
  (fR.raw (.call { callee:=.value x,args:=xs,argTypes:=ts }) ty).m P d next σ H:=by
 refine⟨Zs3 e B,.inl ?_⟩;have F:xs.map (λx=>(σ.get x).getD undef)=vs.toArray:=by obtain⟨xs⟩:=xs;simp only[qBS];rw[(Ol B).1]
 have C:execOp (λx=>(σ.get x).getD undef) (fL (.call { callee:=.value x,args:=xs,argTypes:=ts }) ty)=OU A vs.toArray:=by simp only[execOp,fL,resolve,F,OU,e,Option.getD_some]
 rw[C];refine Vx ?_ h;rintro n g u (D | j)
 ·exact .inl D
 refine .inr ?_;cases n with
 | value v=>exact q _ _ j
 | skip=>exact q _ _ j
 | enter f args=>exact Zb.mono j q
 | round l f tmps aA G=>exact U4.mono j q
 | _=>exact j.elim
def uH{cs:Array Value}(q:P.toProgram.underlying t=some (.array len e))(C:TI P.toProgram e iS zv b)(c:Ym P.toProgram e=some none)(f:σ.get x=some (.agg cs))(g:σ.get y=some (.int k (i:Int)))(D:i<len)(l:cs[i * iS]? = some v)
  (h:next (σ.set d v) H):(fR.raw (.index t x y) ty).m P d next σ H:=by
 obtain⟨B,u,A,F,G⟩:=C.ex;refine YX (by simp[Op.operands,f,g]) (s:=Instr.index t (.agg cs) (.int k (i:Int))) (by simp[execOp,fL,f,g]) ?_;have j:(0:Int)<=(i:Int)/\(i:Int)<(len:Nat):=⟨O,O⟩;simp only[Instr.index,Zf,asIntOf,Zj,ZA q,qAa j,Yc u,part,OW c,A,qAL,l,oR,qAq];exact h
def l9(H:Hp)(E:TypeId)(iS:Nat)(v:Value)(cs:List Value)(n:Nat)(b:Option Nat):Prop:=
 cs.length=n * iS/\((v=.slice none 0 0/\n=0/\b=none)\/∃r cap rest,b=some r/\v=.slice (some ⟨r,0,none⟩) n cap/\H r=some (.cells (cs++rest).toArray E (0,0),true)/\(cs++rest).length=cap * iS/\n<=cap)
def l9.nil(H:Hp)(E:TypeId)(iS:Nat):l9 H E iS (.slice none 0 0) [] 0 none:=⟨by simp,.inl ⟨rfl,rfl,rfl⟩⟩
structure CM(H H':Hp)(b b':Option Nat):Prop where
 gh:H'.gh=H.gh
 keep:∀c y,H c=some y->b≠some c->H' c=some y
 new:b'=b\/∃r,b'=some r/\H r=none
theorem l9.sub{H f:Hp}{v:Value}{n:Nat}{b:Option Nat}(h:l9 H E iS v cs n b)(A:∀c y,b=some c->H c=some y->f c=some y):l9 f E iS v cs n b:=by obtain⟨j,h⟩:=h;refine⟨j,h.imp id ?_⟩;rintro⟨r,cap,rest,g,l,q,u⟩;exact⟨r,cap,rest,g,l,A r _ g q,u⟩
def l9.cells{H:Hp}{v:Value}{n:Nat}{b:Option Nat}(h:l9 H E iS v cs n b):∃A c,v=.slice A n c/\(n≠0->∃a,A=some a/\aM H a cs):=by
 obtain⟨u,⟨g,f,l⟩ | ⟨r,cap,rest,g,f,l,B,C⟩⟩:=h
 ·subst f;exact⟨none,0,g,λh=>absurd rfl h⟩
 refine⟨some ⟨r,0,none⟩,cap,f,λ_=>⟨_,rfl,rfl,_,_,l,λj q=>?_⟩⟩;simp only[Obj.nC,qAJ,qAM];rw[qAQ q]
def ZlN(n:Nat):∀(r c:Nat),Builtin.growBy n r c<=max c (n+(n+768) / 4)
 | 0,c=>by unfold Builtin.growBy;omega
 | r+1,c=>by
  unfold Builtin.growBy;split
  ·omega
  have:=ZlN n r (c+(c+768) / 4);omega
def ZiC{need old:Nat}(h:old<need):Builtin.nextslicecap need old<=2 * need+200:=by
 unfold Builtin.nextslicecap;split
 ·omega
 split
 ·omega
 have:=ZlN need 4 old;omega
def XB{P:PQ}{H:Hp}(c:P.still H.gh=false)(q:aM H a cs){Q:Array Value->Bool->Hp->Prop}{g:Bool}(B:Q cs.toArray g H){n:Nat}(A:cs.length=n):fZ P (loadCells a n) Q g H:=by obtain⟨f,o,p,h,l⟩:=q;subst A;unfold loadCells;exact PY c h f Q g cs 0 #[] (λj u=>by rw[qAJ];exact l j u) (by simpa using B)
def Zgl(zero:Array Value)(n:Nat):(Builtin.zeroCells zero n).size=n * zero.size:=by simp[Builtin.zeroCells]
def Zy9{n m:Nat}{s:Value}{xs:List Value}{b:Option Nat}(hu:P.toProgram.underlying sT=some (.slice E))(ti:TI P.toProgram E iS zv gQ)(hz:zv.cells.size=iS)(he:0<iS)
  (ho:l9 H E iS s cs n b) (hw:(m=0/\∃A c,w=.slice A 0 c)\/∃a c,w=.slice (some a) m c/\aM H a xs) (hl:xs.length=m * iS) (U:(xs.all Value.gM)=true) (hb1:n+m<=1000000000) (V:gQ<=1000) (nO:P.still H.gh=false)
  {K:Value->Hp->Prop} (h:∀v' u b',l9 u E iS v' (cs++xs) (n+m) b'->CM H u b b'->K v' u):fZ P (Builtin.append_ #[sT,sT] T #[s,w]) (λv _ u=>K v u) false H:=by
 obtain⟨inf,N,i2,i3,Z⟩:=ti.ex;obtain⟨B,D⟩:=ho;have L:∀Q g,Q m g H->fZ P (Builtin.lenOf w) Q g H:=by intro Q g hq;rcases hw with⟨rfl,A,c,rfl⟩ | ⟨a,c,rfl,_⟩<;>simpa[Builtin.lenOf,Zj]using hq
 have l:∀(Q:Array Value->Bool->Hp->Prop) g,Q xs.toArray g H->fZ P (Builtin.firstCells iS m w) Q g H:=by exact T1
 have main:∀(f:Option Addr) (cap:Nat),s=.slice f n cap->(n+m<=cap->fZ P (Builtin.firstCells iS m w) (λnew g H1=>match f with | some a=>fZ P (storeCells (a.add (n * iS)) new.toList) (λ_ _ u=>K (.slice f (n+m) cap) u) g H1 | none=>K (.slice f (n+m) cap) H1) false H) ->
   (cap<n+m->∀(Q:Array Value->Bool->Hp->Prop) g,Q cs.toArray g H->fZ P (Builtin.firstCells iS n s) Q g H)->(cap<n+m->b=none\/∃r,b=some r)->fZ P (Builtin.append_ #[sT,sT] T #[s,w]) (λv _ u=>K v u) false H:=by
  intro f cap hs G M hb
  have R:((TypeDesc.slice E) matches .int _)=false:=rfl
  simp only[Builtin.append_,qAM,qBy,qBk,Zf,ZA hu,hs,Yc N,i2,Zj,oR,qAq]
  refine L _ _ ?_
  simp only[qCK,qBb]
  by_cases q:n+m<=cap
  ·rw[qAa q];have:=G q;cases f<;>simpa only[Zf,Zj]using this
  ·rw[iF q];simp only[Zf,UL N,Z];rw[iF (by rintro⟨h,_⟩;simp[IntKind.max,IntKind.bits,IntKind.signed]at h;omega)];simp only[Zf,Zj,UL N,Z];have J:¬ Builtin.nextslicecap (n+m) cap * gQ > 2 ^ 48:=by have U:=ZiC (need:=n+m) (old:=cap) O;have h2:Builtin.nextslicecap (n+m) cap * gQ<=(2 * (n+m)+200) * 1000:=qBK U V;omega
   rw[iF J];simp only[Zf,Zj,choose];rw[fZ];simp only[Question.forced,oR,qAq];refine⟨nO,λt=>?_⟩;have C:n+m<=(Question.appendCap (n+m) cap E).cut t:=by simp only[Question.cut];omega
   generalize(Question.appendCap (n+m) cap E).cut t=S at C;rw[fZ];have I:∀(Q:Unit->Bool->Hp->Prop),Q () false H->fZ P (askRoom (S * gQ)) Q false H:=by exact AZ
   rw[UL N,Z];refine I _ ?_;refine hs ▸ M O _ _ ?_;refine l _ _ ?_;simp only[Us N i3,newRow,Zf,newObj,Zj];refine⟨nO,λr hr=>?_⟩;have F:CM H (H.ins r (.cells (cs.toArray++xs.toArray++Builtin.zeroCells zv.cells (S-(n+m))) E)) b (some r):=by refine⟨rfl,λc y hc _=>?_,.inr ⟨r,rfl,hr⟩⟩;rw[Hp.aR _ _ (by rintro rfl;rw[hr]at hc;simp at hc)];exact hc
   refine h _ _ _ ⟨by rw[IN,B,hl,qDt],.inr ⟨r,S,(Builtin.zeroCells zv.cells (S-(n+m))).toList,rfl,rfl,?_,?_,C⟩⟩ F
   ·rw[Hp.aQ];simp
   simp only[IN,B,hl,qCA,Zgl,hz];rw[<-qDt,<-qDt];congr 1;omega
 rcases D with⟨rfl,rfl,rfl⟩ | ⟨r,cap,rest,rfl,rfl,h3,h4,h5⟩
 ·have W:cs=[]:=qAr (by simpa using B);subst W;refine main none 0 rfl (λq=>?_) (λ_ Q g hq=>by simpa[Builtin.firstCells,Zj]using hq) (λ_=>.inl rfl);have hm:m=0:=O;subst hm;have Y:xs=[]:=qAr (by simpa using hl);subst Y;refine l _ _ ?_;exact h _ _ none ⟨by simp,.inl ⟨rfl,rfl,rfl⟩⟩ ⟨rfl,λc y hc _=>hc,.inl rfl⟩
 refine main (some ⟨r,0,none⟩) cap rfl (λq=>?_) (λ_ Q g hq=>?_) (λ_=>.inr ⟨r,rfl⟩)
 ·refine l _ _ ?_;show fZ _ _ _ _ _;have ha:(⟨r,0,none⟩:Addr).add (n * iS)=⟨r,n * iS,none⟩:=by rw[PE rfl,qAJ]
  rw[ha];have aOF:n * iS+m * iS<=cap * iS:=by rw[<-qDt];exact qAV _ q
  rw[IN,B]at h4;refine MX _ _ xs (n * iS) 0 (cs++rest) H nO h3 U (by rw[IN,B,hl];omega) ?_;refine h _ _ (some r) ⟨by rw[IN,B,hl,qDt],.inr ⟨r,cap,rest.drop (m * iS),rfl,rfl,?_,?_,q⟩⟩ ⟨rfl,λc y hc X=>?_,.inl rfl⟩
  ·rw[Hp.aQ];have e1:(cs++rest).take (n * iS+0)=cs:=by rw[qCg,qCi O,qAH O]
   have e2:(cs++rest).drop (n * iS+0+xs.length)=rest.drop (m * iS):=by rw[qCg,hl,qDv,qBZ O,qAt,B];congr 1;omega
   rw[e1,e2]
  ·simp only[IN,B,hl,List.length_drop];omega
  rw[Hp.aR _ _ (by rintro rfl;exact X rfl)];exact hc
 simp only[Builtin.firstCells];refine XB (cs:=cs) nO ⟨rfl,_,_,h3,λj hj=>?_⟩ hq B;simp only[Obj.nC,qAJ,qAM];rw[qAQ hj]
def XZ{f:TypeId}{n m:Nat}{s:Value}{xs:List Value}{b:Option Nat}(B:P.toProgram.underlying sT=some (.slice E))(C:P.toProgram.underlying f=some (.slice E))(J:TI P.toProgram E iS zv gQ)(R:zv.cells.size=iS)(M:0<iS)
  (F:σ.get x=some s) (G:σ.get y=some w)
  (O:l9 H E iS s cs n b) (Q:(m=0/\∃A c,w=.slice A 0 c)\/∃a c,w=.slice (some a) m c/\aM H a xs) (N:xs.length=m * iS) (L:(xs.all Value.gM)=true) (l:n+m<=1000000000) (q:gQ<=1000) (u:P.still H.gh=false)
  (h:∀K g D,l9 g E iS K (cs++xs) (n+m) D->CM H g b D->next (σ.set d K) g):(fR.raw (.call { callee:=.builtin .append,args:=#[x,y],argTypes:=#[sT,f] }) T).m P d next σ H:=by
 refine YX (s:=Builtin.append_ #[sT,f] T #[s,w]) (by simp[Op.operands,Call.operands,F,G]) (by simp[execOp,fL,resolve,invoke,builtin,F,G]) ?_;have:Builtin.append_ #[sT,f] T #[s,w]=Builtin.append_ #[sT,f] T #[s,w]:=rfl;have I:=Zy9 (T:=T) B J R M O Q N L l q u h;obtain⟨S,U,_⟩:=J.ex;by_cases e:f=sT
 ·rw[e];exact I
 have key:fZ P.toPQ (Builtin.append_ #[sT,f] T #[s,w]) (λv _ g=>next (σ.set d v) g) false H↔fZ P.toPQ (Builtin.append_ #[sT,sT] T #[s,w]) (λv _ g=>next (σ.set d v) g) false H:=by simp only[Builtin.append_,qAM,qBy,qBk,Zf,ZA B];cases s<;>simp only[Zf,ZA C,ZA B,Zj]
 exact key.2 I
def YB{H:Hp}{o:Obj}(g:H r=none):H.Sub (H.ins r o):=⟨λc y f=>by rw[Hp.aR _ _ (by rintro rfl;rw[g]at f;simp at f)];exact f,rfl⟩
def VY(q:TI P.toProgram t sz zv gQ)(c:P.still H.gh=false)(h:∀r,H r=none->next (σ.set d (.pointer (some ⟨r,0,none⟩))) (H.ins r (.cells zv.cells t))):(fR.raw (.alloc t) ty).m P d next σ H:=by obtain⟨l,g,u,j,A⟩:=q.ex;refine YX (by simp[Op.operands]) (s:=Instr.alloc t true (.tuple #[])) (by simp[execOp,fL]) ?_;simp only[Instr.alloc,Zf,Us g j,newVar,newRow,newObj,Zj];exact⟨c,λr f=>h r f⟩
def Ug(e:σ.get x=some v)(c:P.still H.gh=false)(h:∀r,H r=none->next (σ.set d (.pointer (some ⟨r,0,none⟩))) (H.ins r (.cells v.cells t))):(fR.raw (.box t x) ty).m P d next σ H:=by refine YX (by simp[Op.operands,e]) (s:=Instr.box t v) (by simp[execOp,fL,e]) ?_;simp only[Instr.box,Zf,newVar,newRow,newObj,Zj];exact⟨c,λr f=>h r f⟩
def OH{off:Nat}(C:TI P.toProgram t sz zv gQ)(g:σ.get x=some (.pointer (some ⟨b,off,none⟩)))(j:σ.get y=some v)(hb:H b=some (.cells cs.toArray E (0,0),true))(l:v.cells.size=sz)(D:off+sz<=cs.length)(q:(v.cells.toList.all Value.gM)=true)
  (f:P.still H.gh=false) (h:next (σ.set d undef) (H.ins b (.cells (ZR cs off v.cells.toList).toArray E))):(fR.raw (.store t x y) ty).m P d next σ H:=by
 obtain⟨B,u,A,F,G⟩:=C.ex;refine Zid (by simp[Op.operands,g,j]) (s:=Instr.storeAt t (.pointer (some ⟨b,off,none⟩)) v) (by simp[execOp,fL,g,j]) ?_;have c:¬ v.cells.size≠sz:=by simp[l]
 simp only[Instr.storeAt,Instr.sureAddr,storeVar,Zf,Zj,Yc u,A,iF c];refine MX _ _ v.cells.toList off 0 cs H f hb q (by simp[l];omega) ?_;unfold ZR at h;exact h
def VV{g:Value}(u:TI P.toProgram t 1 zv gQ)(j:σ.get x=some (.pointer (some ⟨b,0,none⟩)))(l:σ.get y=some v)(hb:H b=some (.cells #[g] E (0,0),true))(c:v.cells=#[v])(q:Value.gM v=true)
  (f:P.still H.gh=false) (h:next (σ.set d undef) (H.ins b (.cells #[v] E))):(fR.raw (.store t x y) ty).m P d next σ H:=by
 refine OH u j l (cs:=[g]) hb (by rw[c];rfl) (by simp) (by rw[c];simpa using q) f ?_;rw[c];exact h
def yU(q:TI P.toProgram t sz zv gQ)(f:σ.get x=some (.pointer (some ⟨b,0,none⟩)))(g:σ.get y=some v)(hb:H b=some (.cells cs.toArray E (0,0),true))(j:v.cells.size=sz)(u:cs.length=sz)(l:(v.cells.toList.all Value.gM)=true)
  (c:P.still H.gh=false) (h:next (σ.set d undef) (H.ins b (.cells v.cells E))):(fR.raw (.store t x y) ty).m P d next σ H:=by
 refine OH q f g hb j O l c ?_;exact TE
def rT(g:P.toProgram.underlying t=some (.slice E))(q:TI P.toProgram E sz zv gQ)(c:P.still H.gh=false)(h:∀r,H r=none->next (σ.set d (.slice (some ⟨r,0,none⟩) 0 0)) (H.ins r (.cells #[] E))):(fR.raw (.buildSlice t 0 #[]) ty).m P d next σ H:=by
 obtain⟨l,j,u,A,B⟩:=q.ex;refine YX (by simp[Op.operands]) (s:=Instr.buildSlice t 0 #[]) (by simp[execOp,fL]) ?_;simp only[Instr.buildSlice,Zf,ZA g,Yc j,qDg,Zj];simp only[Instr.fill,newRow,newObj,Zf,Zj];simp;refine⟨c,λr f=>?_⟩;have e:(Array.map (λ_=>(default:Value)) (Array.range 0))=#[]:=by simp
 rw[e];exact h r f
def wA{H:Hp}:l9 (H.ins r (.cells #[] E)) E iS (.slice (some ⟨r,0,none⟩) 0 0) [] 0 (some r):=⟨by simp,.inr ⟨r,0,[],rfl,rfl,Hp.aQ _ _ _,by simp,DO _⟩⟩
def VW{f:Fn}{c cs:Array Operand}{g c1:List Value}(D:σ.gets c.toList=some g)(C:σ.gets cs.toList=some c1)(h:next (σ.set d (.func f g.toArray c1.toArray)) H) :
  (fR.raw (.makeFunc f c cs) ty).m P d next σ H:=by
 obtain⟨j,l⟩:=Ol D;obtain⟨q,u⟩:=Ol C;have A:c.map (λx=>(σ.get x).getD undef)=g.toArray:=by obtain⟨c⟩:=c;simp only[qBS];rw[j]
 have B:cs.map (λx=>(σ.get x).getD undef)=c1.toArray:=by obtain⟨cs⟩:=cs;simp only[qBS];rw[q]
 refine YX ?_ (s:=Instr.makeFunc f g.toArray c1.toArray) (by simp[execOp,fL,A,B]) h;simp only[Op.operands,Array.all_append,qAc];exact⟨by rw[<-Array.all_toList];exact l,by rw[<-Array.all_toList];exact u⟩
def Ue{P:PQ}{v:Value}(h:∀(Q:Value->Bool->Hp->Prop) (g:Bool) (H:Hp),Q v g H->fZ P s Q g H):qG P (do let v <-s;pure (.value v)) v:=by intro Q g H c;rw[Zf];exact h _ _ _ c
def yG(c:σ.get x=some (.int k m))(f:σ.get y=some (.int k n))(h:next (σ.set d (.int k (max m n))) H):(fR.gE (.call { callee:=.builtin .max,args:=#[x,y],argTypes:=ts }) ty).m P d next σ H:=by
 have e:(if n > m then n else m)=max m n:=O;refine Vh (by simp[Op.operands,Call.operands,c,f]) ?_ h;have:execOp (λx=>(σ.get x).getD undef) (fL (.call { callee:=.builtin .max,args:=#[x,y],argTypes:=ts }) ty)=(do let v <-Builtin.max_ ts ty #[.int k m,.int k n];pure (.value v)):=by simp[execOp,fL,resolve,invoke,builtin,c,f]
 rw[this];refine Ue λQ g H j=>?_;simp only[Builtin.max_,List.foldlM,Builtin.max2,Zf,Zj,e];exact j
def EH(c:σ.get x=some (.int k m))(f:σ.get y=some (.int k n))(h:next (σ.set d (.int k (min m n))) H):(fR.gE (.call { callee:=.builtin .min,args:=#[x,y],argTypes:=ts }) ty).m P d next σ H:=by
 have e:(if n<m then n else m)=min m n:=O;refine Vh (by simp[Op.operands,Call.operands,c,f]) ?_ h;have:execOp (λx=>(σ.get x).getD undef) (fL (.call { callee:=.builtin .min,args:=#[x,y],argTypes:=ts }) ty)=(do let v <-Builtin.min_ ts ty #[.int k m,.int k n];pure (.value v)):=by simp[execOp,fL,resolve,invoke,builtin,c,f]
 rw[this];refine Ue λQ g H j=>?_;simp only[Builtin.min_,List.foldlM,Builtin.min2,Zf,Zj,e];exact j
def HH(c:σ.get x=some (.int k m))(f:σ.get y=some (.int k n))(j:n≠0)(h:next (σ.set d (.int k (m.tmod n))) H):(fR.gE (.binOp .rem t x y t2) ty).m P d next σ H:=by
 refine Vh (by simp[Op.operands,c,f]) ?_ h;have:execOp (λx=>(σ.get x).getD undef) (fL (.binOp .rem t x y t2) ty)=pure (.value (.int k (m.tmod n))):=by simp[execOp,fL,c,f,eqGuard,binOp,Op.intDiv,j]
 rw[this];exact λQ g H l=>l
def yC(c:σ.get x=some (.int .i64 m))(f:σ.get y=some (.int .i64 n))(j:n≠0)(q:rY (m.tdiv n))(h:next (σ.set d (.int .i64 (m.tdiv n))) H):(fR.gE (.binOp .quo t x y t2) ty).m P d next σ H:=by
 refine Vh (by simp[Op.operands,c,f]) ?_ h;have:execOp (λx=>(σ.get x).getD undef) (fL (.binOp .quo t x y t2) ty)=pure (.value (.int .i64 (m.tdiv n))):=by simp[execOp,fL,c,f,eqGuard,binOp,Op.intDiv,j,V8 q]
 rw[this];exact λQ g H l=>l
def ME{o:BinOp}(f:σ.get x=some (.int k m))(j:σ.get y=some (.int k n))(l:o=.and\/o=.or\/o=.xor\/o=.andNot)(u:(match o with | .xor=>.int k (k.wrap (BitVec.ofInt k.bits m ^^^ BitVec.ofInt k.bits n).toNat) | o=>ZH o k m n)=v)(h:next (σ.set d v) H) :
  (fR.gE (.binOp o t x y t2) ty).m P d next σ H:=by
 refine Vh (by simp[Op.operands,f,j]) ?_ h;subst u;rcases l with rfl | rfl | rfl | rfl<;>(simp only[execOp,fL,f,j,Option.getD_some];exact λQ g H q=>by simpa[Zf,Zj,eqGuard,binOp,Op.intBits,ZH]using q)
def EJ{o:BinOp}(f:σ.get x=some (.int k m))(j:σ.get y=some (.int k2 n))(l:o=.shr\/o=.shl)(A:0<=n)(u:ZH o k m n=v)(h:next (σ.set d v) H) :
  (fR.gE (.binOp o t x y t2) ty).m P d next σ H:=by
 refine Vh (by simp[Op.operands,f,j]) ?_ h;subst u;have:¬ n<0:=O;rcases l with rfl | rfl<;>(simp only[execOp,fL,f,j,Option.getD_some];exact λQ g H q=>by simpa[Zf,Zj,eqGuard,binOp,Op.shift,ZH,this]using q)
def VC{s:TypeId}{k0:IntKind}(j:P.toProgram.underlying s=some (.int k0))(l:P.toProgram.underlying t=some (.int k))(c:σ.get x=some (.int k0 m))(h:next (σ.set d (.int k (k.wrap m))) H):(fR.gE (.convert s t x) ty).m P d next σ H:=by
 refine Vh (by simp[Op.operands,c]) ?_ h;have:execOp (λx=>(σ.get x).getD undef) (fL (.convert s t x) ty)=(do let v <-convert s t (.int k0 m);pure (.value v)):=by simp[execOp,fL,c]
 rw[this];refine Ue λQ g H f=>?_;simp only[convert,Zf,ZA j,ZA l,Conv.intToInt,Zj];exact f
def Uf(e:σ.get x=some (.pointer (some a)))(h:next (σ.set d (.pointer (some a))) H):(fR.gE (.nilCheck x) ty).m P d next σ H:=by
 refine Vh (by simp[Op.operands,e]) ?_ h;have:execOp (λx=>(σ.get x).getD undef) (fL (.nilCheck x) ty)=pure (.value (.pointer (some a))):=by simp[execOp,fL,e]
 rw[this];exact λQ g H c=>c
def Zia{a:Option Addr}(u:P.toProgram.underlying t=some (.slice E))(D:TI P.toProgram E sz zv gQ)(c:σ.get x=some (.slice a len cap))(f:σ.get y=some (.int k (lo:Int)))(l:lo<=len)
  (h:next (σ.set d (.slice (if cap=lo then a else a.map (·.add (lo * sz))) (len-lo) (cap-lo))) H):(fR.gE (.slice t x (some y) none none) ty).m P d next σ H:=by
 obtain⟨C,A,B,F,G⟩:=D.ex;refine Vh (by simp[Op.operands,c,f]) ?_ h;have:execOp (λx=>(σ.get x).getD undef) (fL (.slice t x (some y) none none) ty)=(do let v <-Instr.sliceAt t (.slice a len cap) (some (.int k (lo:Int))) none none;pure (.value v)):=by simp[execOp,fL,c,f]
 rw[this];refine Ue λQ g H q=>?_;have j:(0:Int)<=(lo:Int)/\(lo:Int)<=(len:Nat):=⟨O,O⟩;simp only[Instr.sliceAt,Zf,ZA u,Instr.slice,Instr.sliceBounds,Instr.sliceBound,asIntOf,Zj,qAa j,Yc A,B,qAL];exact q
def PC{hi:Nat}{a:Option Addr}{u B:Option Operand}(A:P.toProgram.underlying t=some (.slice E))(K:TI P.toProgram E sz zv gQ)(j:σ.get x=some (.slice a len cap))(l:(u=none/\lo=0)\/∃y,u=some y/\σ.get y=some (.int k (lo:Int)))(c:∃z,B=some z/\σ.get z=some (.int k2 (hi:Int)))(I:lo<=hi)(G:hi<=cap)
  (h:next (σ.set d (.slice (if cap=lo then a else a.map (·.add (lo * sz))) (hi-lo) (cap-lo))) H):(fR.gE (.slice t x u B none) ty).m P d next σ H:=by
 obtain⟨J,C,D,L,M⟩:=K.ex;obtain⟨z,rfl,c⟩:=c;have F:(0:Int)<=(lo:Int)/\(lo:Int)<=(hi:Nat):=⟨O,O⟩;have f:(0:Int)<=(hi:Int)/\(hi:Int)<=(cap:Nat):=⟨O,O⟩;rcases l with⟨rfl,rfl⟩ | ⟨y,rfl,l⟩
 ·refine Vh (by simp[Op.operands,j,c]) ?_ h;have:execOp (λx=>(σ.get x).getD undef) (fL (.slice t x none (some z) none) ty)=(do let v <-Instr.sliceAt t (.slice a len cap) none (some (.int k2 (hi:Int))) none;pure (.value v)):=by simp[execOp,fL,j,c]
  rw[this];refine Ue λQ g H q=>?_;simp only[Instr.sliceAt,Zf,ZA A,Instr.slice,Instr.sliceBounds,Instr.sliceBound,asIntOf,Zj,qAa f,Yc C,D,qAL];exact q
 refine Vh (by simp[Op.operands,j,l,c]) ?_ h;have:execOp (λx=>(σ.get x).getD undef) (fL (.slice t x (some y) (some z) none) ty)=(do let v <-Instr.sliceAt t (.slice a len cap) (some (.int k (lo:Int))) (some (.int k2 (hi:Int))) none;pure (.value v)):=by simp[execOp,fL,j,l,c]
 rw[this];refine Ue λQ g H q=>?_;simp only[Instr.sliceAt,Zf,ZA A,Instr.slice,Instr.sliceBounds,Instr.sliceBound,asIntOf,Zj,qAa F,qAa f,Yc C,D,qAL];exact q
def W7(j:P.toProgram.underlying t=some (.array len e))(A:TI P.toProgram e iS zv gQ)(c:σ.get x=some (.pointer (some a)))(f:σ.get y=some (.int k (i:Int)))(B:i<len)
  (h:next (σ.set d (.pointer (some (a.add (i * iS))))) H):(fR.raw (.indexAddr t x y) ty).m P d next σ H:=by
 obtain⟨u,l,q,C,D⟩:=A.ex;refine YX (by simp[Op.operands,c,f]) (s:=Instr.indexAt t (.pointer (some a)) (.int k (i:Int))) (by simp[execOp,fL,c,f]) ?_;have g:(0:Int)<=(i:Int)/\(i:Int)<(len:Nat):=⟨O,O⟩;simp only[Instr.indexAt,Zf,asIntOf,Zj,ZA j,Instr.sureAddr,qAa g,Yc l,q,qAL];exact h
end
end
abbrev Nd:=Frame×List Frame×Hp
inductive Rk:Type
 | xS
 | node (f:Nd->Rk)
def Rk.lt:Rk->Rk->Prop
 | _,.xS=>False
 | y,.node f=>∃x,y=f x
def Rk.Xv:∀x:Rk,Acc Rk.lt x
 | .xS=>⟨_,λ_ h=>h.elim⟩
 | .node f=>⟨_,λ_ ⟨x,h⟩=>h ▸ Rk.Xv (f x)⟩
def Rk.ofNat:Nat->Rk
 | 0=>.xS
 | n+1=>.node λ_=>.ofNat n
def Rk.ofNat_lt(n:Nat):Rk.lt (.ofNat n) (.ofNat (n+1)):=⟨(default,[],.nil),rfl⟩
def jI(Φ:(Nd->Prop)->Nd->Prop):Rk->Nd->Prop
 | .xS,_=>False
 | .node f,x=>Φ (λy=>jI Φ (f y) y) x
def Zp3{Φ:(Nd->Prop)->Nd->Prop}(g:∀{R c:Nd->Prop},(∀x,R x->c x)->∀x,Φ R x->Φ c x){x:Nd}(h:∀R:Nd->Prop,(∀x,Φ R x->R x)->R x):∃k,jI Φ k x:=by
 refine h (λx=>∃k,jI Φ k x) (λx j=>?_)
 classical
 refine⟨.node λy=>if h:∃k,jI Φ k y then h.choose else .xS,?_⟩
 refine g (λy f=>?_) x j
 simp only[dif_pos f]
 exact f.choose_spec
def jI.step{Φ:(Nd->Prop)->Nd->Prop}(j:∀{R c:Nd->Prop},(∀x,R x->c x)->∀x,Φ R x->Φ c x){k:Rk}{x:Nd}(h:jI Φ k x):Φ (λy=>∃g,Rk.lt g k/\jI Φ g y) x:=by
 cases k with
 | xS=>exact h.elim
 | node f=>exact j (λy l=>⟨f y,⟨y,rfl⟩,l⟩) x h
def PH(n:Nat)(ρ' ρ:Nat->Rk):Prop:=∃j,j<n/\Rk.lt (ρ' j) (ρ j)/\∀k,k≠j->ρ' k=ρ k
theorem ZeZ:∀(n:Nat) (ρ:Nat->Rk),Acc (PH n) ρ
 | 0,ρ=>⟨_,λ_ ⟨_,h,_⟩=>absurd h (qBW _)⟩
 | n+1,ρ=>by
  have key:∀x,Acc Rk.lt x->∀ρ,Acc (PH n) ρ->ρ n=x->Acc (PH (n+1)) ρ:=by
   intro x u;induction u with
   | intro x _ g=>
    intro ρ A;induction A with
    | intro ρ _ l=>
     intro e;refine⟨_,λρ' ⟨j,B,f,q⟩=>?_⟩;by_cases c:j=n
     ·subst c;exact g (ρ' j) (e ▸ f) ρ' (ZeZ j ρ') rfl
     exact l ρ' ⟨j,O,f,q⟩ ((q n (qAo c)).trans e)
  exact key _ (Rk.Xv _) ρ (ZeZ n ρ) rfl
abbrev Ms:=Nat×Nat×(Nat->Rk)×Nat
def rJ(n:Nat):Ms->Ms->Prop:=Prod.Lex (·<·) (Prod.Lex (·<·) (Prod.Lex (PH n) (·<·)))
def Zuc(n:Nat):WellFounded (rJ n):=
 ⟨λ⟨_,_,_,_⟩=>qDH (Nat.lt_wfRel.wf.apply _) (λx=>by obtain⟨_,_,_⟩:=x;exact qDH (Nat.lt_wfRel.wf.apply _) (λx=>by obtain⟨_,_⟩:=x;exact qDH (ZeZ n _) (λ_=>Nat.lt_wfRel.wf.apply _) _) _) _⟩
variable{w w':World}{i:Nat}{fr:Frame}{es:Array Event}{t fK:Trace}{cs:List Frame}
open Go.Conc (Knows Deaf touchAt QuitsD rcase scase recvd parked)
abbrev j0(fr:Frame)(cs:List Frame):Goroutine:={ frame:=fr,callers:=cs,status:=.blocked,dying:=none }
def _root_.Go.Loc.j0:Loc->Option Nat
 | .cell a=>some a.block
 | .obj r=>some r
 | _=>none
def Hp.Dis(H F:Hp):Prop:=∀b x y,H b=some x->F b=some y->x=y/\x.2=false
def Hp.Dis.symm{H F:Hp}(h:H.Dis F):F.Dis H:=λb x y c f=>by obtain⟨e,p⟩:=h b y x f c;exact⟨e.symm,by rw[<-e];exact p⟩
def Hp.Dis.left{H F J:Hp}(h:(H.join F).Dis J):H.Dis J:=λb x y c f=>h b x y (Hp.eN c) f
def Hp.Dis.right{H F J:Hp}(g:H.Comp F)(h:(H.join F).Dis J):F.Dis J:=λb x y c f=>h b x y (Hp.fS g c) f
def Hp.Dis.join{H F J:Hp}(h1:H.Dis J)(h2:F.Dis J):(H.join F).Dis J:=λb x y hx hy=>by exact S7
structure wE(w w':World):Prop where
 os:Go.ConcM.OsLater w.os w'.os
 tape:w'.tape=w.tape
 out:w'.output=w.output
def wE.refl(w:World):wE w w:=⟨.refl _,rfl,rfl⟩
def wE.trans{a b c:World}(h:wE a b)(k:wE b c):wE a c:=⟨h.os.trans k.os,k.tape.trans h.tape,k.out.trans h.out⟩
def lR(H c:Hp)(w:World)(K:Hp):Prop:=∀b x,K b=some x->w.heap.size<=b\/∃y,(H b=some y\/c b=some y)/\(y.2=false->x=y)
def lR.dis{H g K F:Hp}(h:lR H g w K)(q:F.le w)(j:H.Dis F)(l:g.Dis F):K.Dis F:=by
 intro b x y A f;rcases h b x A with h | ⟨z,c,u⟩
 ·exact absurd (q.lt f) O
 have:z=y/\z.2=false:=c.elim (λc=>j b z y c f) (λc=>l b z y c f);rw[u this.2];exact this
def iQ(t:Trace)(i:Nat)(H:Hp):Prop:=∀b o p,H b=some (o,p)->∀q a,touchAt t q=some a->a.loc.j0=some b->(p=true\/a.write=true)->Knows t i q
structure VG(p:Program) where
 S:Type
 tag:S->Nat->List Nat
 next:S->Nat
 more:S->Nat
 Inv:S->Hp->Trace->Prop
 Blk:S->Nat->Prop
 act:List Nat->Prop
 hsh:List Nat->Prop
 left:List Nat
 stl:List Nat->Bool
 stlNil:stl []=true
 ch:Nat
 cls:S->Bool
 can:Bool->List Nat->Prop
 puts:List Nat->List Nat->Value->Hp->Prop
 gets:List Nat->List Nat->Value->Hp->Prop
 shut:List Nat->List Nat
def lv(d:Nat):List Nat:=[0,d]
def Hp.tagged(H:Hp)(g:List Nat):Hp:=⟨H.mem,g⟩
theorem Hp.mZ(H:Hp)(g:List Nat)(b:Nat):H.tagged g b=H b:=rfl
def Hp.kT{H F:Hp}(c:F.gh=[])(g:List Nat):(H.join F).tagged g=(H.tagged g).join F:=Hp.ext' (λb=>rfl) (by simp[Hp.gB,Hp.tagged,c])
def Hp.Comp.tagged{H F:Hp}(h:H.Comp F)(j:F.gh=[])(g:List Nat):(H.tagged g).Comp F:=⟨λb x y c f=>h b x y c f,.inr j⟩
section
variable{p:Program}(T:VG p)
structure jZ(i:Nat)(s:T.S)(Hs:Hp)(t:Trace)(w:World)(H:Hp)(fK:Trace)(s':T.S)(mW:Hp)(w':World):Prop where
 size:w.heap.size<=w'.heap.size
 keep:∀b,b<w.heap.size->(∀o,H b≠some (o,true))->(∀o,Hs b≠some (o,true))->w'.heap[b]? = w.heap[b]?
 leS:mW.le w'
 from2:lR H Hs w mW
 out:wE w w'
 evs:∀op∈fK,∀x,op.act.touch? = some x->∀b,x.loc.j0=some b->(∃o p,(H b=some (o,p)\/Hs b=some (o,p))/\(x.write=true->p=true))\/w.heap.size<=b
 norace:∀said q a,touchAt t q=some a->∀op∈fK,∀b,op.act.touch? = some b->a.conflicts said b->Knows t i q
 low:∀op∈fK,op.act.low w'.heap.size
 inv:T.Inv s' mW (t++fK)
structure kN(i:Nat)(Hs:Hp)(w:World)(H:Hp)(t':Trace)(mW:Hp)(w':World)(H':Hp):Prop where
 le:H'.le w'
 dis:H'.Dis mW
 aH:lR H Hs w H'
 perm:iQ t' i H'
abbrev ZS(i:Nat)(fr:Frame)(es:Array Event):Trace:=MemOp.ofEvents i fr.fn fr.place es
structure gX(i:Nat)(H:Hp)(s:T.S)(Hs:Hp)(t:Trace)(w:World):Prop where
 inv:T.Inv s Hs t
 tag:T.tag s i=H.gh
 lt:i<T.next s
 le:H.le w
 leS:Hs.le w
 dis:H.Dis Hs
 perm:iQ t i H
 low:∀op∈t,op.act.low w.heap.size
 above:∀j,T.next s<=j->Deaf t j=0
def Ow(i:Nat)(K:Trace->Frame->List Frame->Hp->Prop)(fr:Frame)(cs:List Frame)(H:Hp)(s:T.S)(q:Hp)(t:Trace)(w:World):Prop:=
 ∃h g w' l c f es,stepG p (i == 0) (gG fr cs) w=.go (gG h g) w' es/\jZ T i s q t w H (ZS i fr es) c f w'/\kN i q w H (t++ZS i fr es) f w' l /\
  (∀j,T.tag c j=if j=i then l.gh else T.tag s j)/\T.next c=T.next s/\T.more c<=T.more s/\(mayWake p (gG fr cs)=true\/∀j,T.Blk s j->T.Blk c j)/\(T.cls c=T.cls s\/(T.cls c=true/\mayWake p (gG fr cs)=true/\i=0))/\K (t++ZS i fr es) h g l
def Mi(i:Nat)(fr:Frame)(cs:List Frame)(s:T.S)(w:World):Prop:=
 stepG p (i == 0) (gG fr cs) w=.go (j0 fr cs) w #[]/\T.Blk s i
def xQ(H:Hp):Prop:=∀b,H b=none
def Hp.fL(g:List Nat):Hp:=⟨λ_=>none,g⟩
def Vs:Frame->List Frame->Hp->Prop:=λ_ _ _=>False
theorem OF:∀op∈ZS i fr es,op.g=i:=λop c=>by obtain⟨e,_,rfl⟩:=Go.Conc.mem_ofEvents c;rfl
def iQ.own{u:Trace}{H:Hp}(h:iQ t i H)(D:∀op∈u,op.g=i\/op.act.touch? = none):iQ (t++u) i H:=by
 intro b o p hb q a C B F;obtain⟨x,A,c⟩:=Go.Conc.touch_of C;rcases Go.Conc.getElem?_append_cases A with⟨G,j⟩ | ⟨_,l⟩
 ·exact(h b o p hb q a (by rw[Go.Conc.touchAt_of j];exact c) B F).app u
 have:=Go.Conc.knows_own A;rcases D x l with f | f
 ·rwa [f]at this
 rw[f]at c;simp at c
def iQ.join{H F:Hp}(h:iQ t i H)(c:iQ t i F):iQ t i (H.join F):=by
 intro b o p hb;simp only[Hp.fW]at hb;cases hh:H b with
 | none=>rw[hh]at hb;exact c b o p hb
 | some z=>rw[hh]at hb;exact h b o p (by rw[hh];exact hb)
def iQ.left{H F:Hp}(h:iQ t i (H.join F)):iQ t i H:=λb o p hb=>h b o p (Hp.eN hb)
def iQ.right{H F:Hp}(c:H.Comp F)(h:iQ t i (H.join F)):iQ t i F:=λb o p hb=>h b o p (Hp.fS c hb)
def JZ{H F:Hp}(f:H.Comp F)(c:H.gh≠[]):F.gh=[]:=f.gh.resolve_left c
variable{T}
def gX.left{H F:Hp}{s:T.S}{c:Hp}(g:H.Comp F)(f:H.gh≠[])(h:gX T i (H.join F) s c t w):gX T i H s c t w:=
 ⟨h.inv,by rw[h.tag,Hp.gB,JZ g f,qAl],h.lt,h.le.left,h.leS,h.dis.left,h.perm.left,h.low,h.above⟩
theorem jZ.frame{H F:Hp}{s u:T.S}{q c:Hp}(h:jZ T i s q t w H fK u c w'):jZ T i s q t w (H.join F) fK u c w':=
 ⟨h.size,λb hb f g=>h.keep b hb (λo B=>f o (Hp.eN B)) g,h.leS,λb x l=>(h.from2 b x l).imp id λ⟨y,C,A⟩=>⟨y,C.imp Hp.eN id,A⟩,h.out,
  λop j x l b hb=>(h.evs op j x l b hb).imp (λ⟨o,p,f,g⟩=>⟨o,p,f.imp Hp.eN id,g⟩) id,h.norace,h.low,h.inv⟩
def Mq{H F Hs:Hp}(h:H.Dis F)(j:Hs.Dis F)(g:F.le w)(f:∀b,b<w.heap.size->(∀o,H b≠some (o,true))->(∀o,Hs b≠some (o,true))->w'.heap[b]? = w.heap[b]?):F.le w':=by intro b o p hb;rw[f b (g.lt hb) (λl c=>by simpa using(h b _ _ c hb).2) (λl c=>by simpa using(j b _ _ c hb).2)];exact g b o p hb
theorem kN.frame{H F:Hp}{s L:T.S}{f c:Hp}{u:Hp}(j:H.Comp F)(l:∀op∈fK,op.g=i\/op.act.touch? = none)(B:gX T i (H.join F) s f t w)
  (I:jZ T i s f t w H fK L c w') (h:kN i f w H (t++fK) c w' u):kN i f w (H.join F) (t++fK) c w' (u.join F):=by
 have G:F.le w:=B.le.right j;have C:H.Dis F:=j.mem;have D:f.Dis F:=(B.dis.right j).symm;have A:F.le w':=Mq C D G I.keep;refine⟨?_,?_,?_,?_⟩
 ·intro b o p hb;simp only[Hp.fW]at hb;cases hh:u b with
  | none=>rw[hh]at hb;exact A b o p hb
  | some z=>rw[hh]at hb;exact h.le b o p (by rw[hh];exact hb)
 ·exact h.dis.join ((I.from2.dis G C D).symm)
 ·intro b x q;simp only[Hp.fW]at q;cases hh:u b with
  | none=>rw[hh]at q;exact .inr ⟨x,.inl (Hp.fS j q),λ_=>rfl⟩
  | some z=>
   rw[hh]at q;exact(h.aH b x (by rw[hh];exact q)).imp id λ⟨y,K,J⟩=>⟨y,K.imp Hp.eN id,J⟩
 exact h.perm.join ((B.perm.right j).own l)
def kN.comp{H F:Hp}{s:T.S}{j f:Hp}{u:Trace}{g:Hp}(c:H.Comp F)(q:H.gh≠[])(l:gX T i (H.join F) s j t w)(h:kN i j w H u f w' g):g.Comp F:=
 ⟨h.aH.dis (l.le.right c) c.mem (l.dis.right c).symm,.inr (JZ c q)⟩
def Ow.frame{K:Trace->Frame->List Frame->Hp->Prop}{H F:Hp}{s:T.S}{f:Hp}(u:H.Comp F)(B:H.gh≠[])(G:gX T i (H.join F) s f t w)
  (h:Ow T i K fr cs H s f t w):Ow T i (λR fr cs I=>∃c,I=c.join F/\c.Comp F/\K R fr cs c) fr cs (H.join F) s f t w:=by
 obtain⟨iD,l,w',c,Q,g,es,J,C,D,L,M,N,h7,q,O⟩:=h;exact⟨iD,l,w',c.join F,Q,g,es,J,C.frame,D.frame u (λop A=>.inl (OF op A)) G C,λj=>by rw[L,Hp.gB,JZ u B,qAl],M,N,h7,q,c,rfl,D.comp u B G,O⟩
def Ow.mono{K l:Trace->Frame->List Frame->Hp->Prop}{H:Hp}{s:T.S}{j:Hp}(I:∀t fr cs H,K t fr cs H->l t fr cs H)
  (h:Ow T i K fr cs H s j t w):Ow T i l fr cs H s j t w:=
 let⟨iD,f,w',q,J,c,es,u,A,B,C,D,F,h7,g,G⟩:=h
 ⟨iD,f,w',q,J,c,es,u,A,B,C,D,F,h7,g,I _ _ _ _ G⟩
variable(T)
def OZ(R:Frame->List Frame->Hp->Prop)(fr:Frame)(cs:List Frame)(H:Hp):Prop:=
 T.can true H.gh/\∃(v z:Value) (g:List Nat) (f c:Hp),(∀main w n,w.heap[T.ch]? = some (.chan 0 #[] false n n false)->stepG p main (gG fr cs) w=.comm (gG fr cs) #[scase T.ch v z] true .send w #[]) /\
  H=f.join c/\f.Comp c/\c.gh=[]/\T.puts H.gh g v c/\T.act g/\R (fr.finish undef) cs (f.tagged g)
def O0(R:Frame->List Frame->Hp->Prop)(fr:Frame)(cs:List Frame)(H:Hp):Prop:=
 T.can false H.gh/\∃(z:Value) (c:Bool),(∀main w n h,w.heap[T.ch]? = some (.chan 0 #[] h n n false)->stepG p main (gG fr cs) w=.comm (gG fr cs) #[rcase T.ch z] true (.recv c) w #[]) /\
  (∀g v f,f.gh=[]->H.Dis f->T.gets H.gh g v f->T.act g/\R (fr.finish (recvd c v true)) cs ((H.join f).tagged g))/\T.act (T.shut H.gh)/\R (fr.finish (recvd c z false)) cs (H.tagged (T.shut H.gh))
variable{T}
def OZ.mono{R c:Frame->List Frame->Hp->Prop}(F:∀fr cs H,R fr cs H->c fr cs H){H:Hp}(h:OZ T R fr cs H):OZ T c fr cs H:=by obtain⟨l,v,z,j,f,g,q,u,A,B,C,D,h7⟩:=h;exact⟨l,v,z,j,f,g,q,u,A,B,C,D,F _ _ _ h7⟩
def O0.mono{R j:Frame->List Frame->Hp->Prop}(u:∀fr cs H,R fr cs H->j fr cs H){H:Hp}(h:O0 T R fr cs H):O0 T j fr cs H:=by obtain⟨A,z,f,B,q,C,D⟩:=h;exact⟨A,z,f,B,λl v g a b c=>⟨(q l v g a b c).1,u _ _ _ (q l v g a b c).2⟩,C,u _ _ _ D⟩
def OZ.frame{R:Frame->List Frame->Hp->Prop}{H F:Hp}(q:H.Comp F)(G:H.gh≠[])(h:OZ T R fr cs H):OZ T (λfr cs D=>∃g,D=g.join F/\g.Comp F/\R fr cs g) fr cs (H.join F):=by
 have l:=JZ q G;have C:(H.join F).gh=H.gh:=by rw[Hp.gB,l,qAl]
 obtain⟨c,v,z,f,j,u,I,rfl,B,J,K,L,h7⟩:=h;have c1:j.Comp F:=q.gP;have c2:u.Comp F:=Hp.Comp.gS B q;refine⟨by rw[C];exact c,v,z,f,j.join F,u,I,?_,Hp.Comp.lX B c2.symm,J,by rw[C];exact K,L,j.tagged f,Hp.kT l f,c1.tagged l f,h7⟩;rw[Hp.gV,Hp.gV,Hp.pA c2]
def O0.frame{R:Frame->List Frame->Hp->Prop}{H F:Hp}(l:H.Comp F)(I:H.gh≠[])(h:O0 T R fr cs H):O0 T (λfr cs G=>∃u,G=u.join F/\u.Comp F/\R fr cs u) fr cs (H.join F):=by
 have f:=JZ l I;have q:(H.join F).gh=H.gh:=by rw[Hp.gB,f,qAl]
 obtain⟨j,z,g,J,K,L,M⟩:=h;refine⟨by rw[q];exact j,z,g,J,?_,by rw[q];exact L,H.tagged (T.shut H.gh),by rw[q];exact Hp.kT f _,l.tagged f _,M⟩;rw[q];intro B v A a b c;obtain⟨k1,k2⟩:=K B v A a b.left c;have D:F.Comp A:=⟨b.right l,.inl f⟩;refine⟨k1,(H.join A).tagged B,?_,(Hp.Comp.lX l D.symm).tagged f B,k2⟩;rw[<-Hp.kT f,Hp.gV,Hp.gV,Hp.pA D]
variable(T)
noncomputable def VG.envW(i:Nat):Env where
 sh:=λR fr cs H=>H.gh≠[] /\
  ((∃d,H.gh=lv d/\((∃iD c es,(∀e∈es,Event.mute e=true)/\(∀main w,stepG p main (gG fr cs) w=.go (gG iD c) w es)/\R iD c (H.tagged (lv (deafBehind d es))))\/(d=0/\∃g:Goroutine,g.status=.finished/\∀w,stepG p false (gG fr cs) w=.go g w))) \/
     (T.act H.gh/\∀s l t w,gX T i H s l t w ->
    Ow T i (λ_ iD c f=>(R iD c f/\T.act f.gh)\/(T.hsh f.gh/\R iD c (H.tagged f.gh))) fr cs H s l t w\/Mi T i fr cs s w) \/
     (T.hsh H.gh/\∀s l t w,gX T i (.fL H.gh) s l t w ->
    Ow T i (λU iD c f=>xQ f/\((T.hsh f.gh/\R iD c (H.tagged f.gh))\/(f.gh=T.left/\R iD c (H.tagged (lv (Deaf U i)))))) fr cs (.fL H.gh) s l t w\/Mi T i fr cs s w) \/
     (T.act H.gh/\O0 T R fr cs H))
 shMono:=by
  rintro R W A fr cs H ⟨B,h⟩;refine⟨B,h.imp ?_ (qDD ?_ (qDD ?_ λh=>⟨h.1,h.2.mono A⟩))⟩
  ·rintro⟨d,e,h⟩;exact⟨d,e,h.imp (λ⟨iD,c,es,L,M,N⟩=>⟨iD,c,es,L,M,A _ _ _ N⟩) id⟩
  ·rintro⟨q,h⟩;exact⟨q,λs l t w q=>(h s l t w q).imp (Ow.mono λt fr cs H h=>h.imp (λh=>⟨A _ _ _ h.1,h.2⟩) λh=>⟨h.1,A _ _ _ h.2⟩) id⟩
  rintro⟨q,h⟩;exact⟨q,λs l t w q=>(h s l t w q).imp (Ow.mono λt fr cs H h=>⟨h.1,h.2.imp (λh=>⟨h.1,A _ _ _ h.2⟩) λh=>⟨h.1,A _ _ _ h.2⟩⟩) id⟩
 shFrame:=by
  rintro R fr cs H F G ⟨B,h⟩;have J:=JZ G B;have C:(H.join F).gh=H.gh:=by rw[Hp.gB,J,qAl]
  have u:∀g iD c,R iD c (H.tagged g)->∃f,(H.join F).tagged g=f.join F/\f.Comp F/\R iD c f:=λg iD c A=>⟨_,Hp.kT J g,G.tagged J g,A⟩;refine⟨by rw[C];exact B,h.imp ?_ (qDD ?_ (qDD ?_ λh=>⟨by rw[C];exact h.1,h.2.frame G B⟩))⟩
  ·rintro⟨d,e,h⟩;exact⟨d,C.trans e,h.imp (λ⟨iD,c,es,L,M,N⟩=>⟨iD,c,es,L,M,u _ _ _ N⟩) id⟩
  ·rintro⟨D,h⟩;refine⟨by rw[C];exact D,λs l t w q=>?_⟩;refine(h s l t w (q.left G B)).imp (λS=>(S.frame G B q).mono ?_) id;rintro U iD c V ⟨f,rfl,O,K⟩;have Q:(f.join F).gh=f.gh:=by rw[Hp.gB,J,qAl]
   rw[Q];exact K.imp (λh=>⟨⟨f,rfl,O,h.1⟩,h.2⟩) λh=>⟨h.1,u _ _ _ h.2⟩
  rintro⟨I,h⟩;refine⟨by rw[C];exact I,λs l t w q=>?_⟩;rw[C]at q ⊢;exact(h s l t w q).imp (Ow.mono λU iD c f K=>⟨K.1,K.2.imp (λh=>⟨h.1,u _ _ _ h.2⟩) λh=>⟨h.1,u _ _ _ h.2⟩⟩) id
noncomputable def VG.prgW(i:Nat):fP:={ toProgram:=p,still:=T.stl,stillNil:=λh=>absurd h (by simp[T.stlNil]),toEnv:=T.envW i }
def Y6(i k:Nat)(fr c:Frame)(es:Array Event):Trace:=
 (ZS i fr es).push { g:=i,fn:=fr.fn,pos:=fr.place,act:=.go k } |>.push { g:=k,fn:=c.fn,pos:=fr.place,act:=.start }
theorem Zvu{k:Nat}{f:Frame}:∀op∈Y6 0 k fr f es,op.g=0\/op.act.touch? = none:=by
 intro op c;rcases Array.mem_push.1 c with c | rfl
 ·rcases Array.mem_push.1 c with c | rfl
  ·exact .inl (OF op c)
  exact .inl rfl
 exact .inr rfl
def Kl(K:Frame->List Frame->Hp->Prop)(fr:Frame)(cs:List Frame)(H:Hp)(s:T.S)(A:Hp)(t:Trace)(w:World):Prop:=
 ∃u q c w' h l g f es,stepG p true (gG fr cs) w=.spawn (gG u q) (gG c []) w' es/\jZ T 0 s A t w H (Y6 0 (T.next s) fr c es) g f w' /\
  kN 0 A w H (t++Y6 0 (T.next s) fr c es) f w' h/\kN (T.next s) A w H (t++Y6 0 (T.next s) fr c es) f w' l/\h.Dis l /\
  (∀j,T.tag g j=if j=0 then h.gh else if j=T.next s then l.gh else T.tag s j)/\T.next g=T.next s+1/\T.more g<T.more s/\(T.cls g=T.cls s/\∀j,j<T.next s->T.Blk s j->T.Blk g j) /\
  K u q h/\T.act h.gh/\T.act l.gh/\Reach (T.prgW (T.next s)) Vs c [] l
theorem Kl.frame{K:Frame->List Frame->Hp->Prop}{H F:Hp}{s:T.S}{j:Hp}(f:H.Comp F)(G:H.gh≠[])(l:gX T 0 (H.join F) s j t w)
  (h:Kl T K fr cs H s j t w):Kl T (λfr cs L=>∃c,L=c.join F/\c.Comp F/\K fr cs c) fr cs (H.join F) s j t w:=by
 obtain⟨iD,u,A,w',c,M,s',q,es,Q,I,J,g,R,U,h7,V,W,B,C⟩:=h;have X:F.le w:=l.le.right f;have N:H.Dis F:=f.mem;have O:j.Dis F:=(l.dis.right f).symm;have e:(c.join F).gh=c.gh:=by rw[Hp.gB,JZ f G,qAl]
 refine⟨iD,u,A,w',c.join F,M,s',q,es,Q,I.frame,J.frame f Zvu l I,⟨g.le,g.dis,?_,g.perm⟩,R.join (g.aH.dis X N O).symm,?_,h7,V,W,⟨c,rfl,J.comp f G l,B⟩,?_⟩
 ·exact λb x Z=>(g.aH b x Z).imp id λ⟨y,hy,Y⟩=>⟨y,hy.imp Hp.eN id,Y⟩
 ·rw[e];exact U
 rw[e];exact C
noncomputable def VG.envM:Env where
 sh:=λR fr cs H=>H.gh≠[]/\∀s g t w,gX T 0 H s g t w ->
  Ow T 0 (λX iD c j=>R iD c j/\T.act j.gh) fr cs H s g t w\/Mi T 0 fr cs s w\/Kl T R fr cs H s g t w\/OZ T R fr cs H
 shMono:=by rintro R Z J fr cs H ⟨f,h⟩;refine⟨f,λs g t w l=>(h s g t w l).imp (Ow.mono λt fr cs H h=>⟨J _ _ _ h.1,h.2⟩) (qDD id (qDD ?_ (OZ.mono J)))⟩;rintro⟨iD,c,A,w',j,K,W,u,es,B,G,L,M,N,O,h7,Q,S,C,D⟩;exact⟨iD,c,A,w',j,K,W,u,es,B,G,L,M,N,O,h7,Q,S,J _ _ _ C,D⟩
 shFrame:=by rintro R fr cs H F q ⟨f,h⟩;refine⟨by rw[Hp.gB];simp[f],λs g t w l=>?_⟩;refine(h s g t w (l.left q f)).imp (λU=>(U.frame q f l).mono ?_) (qDD id (qDD (λV=>V.frame T q f l) (OZ.frame q f)));rintro X iD c Y ⟨j,rfl,I,B,G⟩;exact⟨⟨j,rfl,I,B⟩,by rw[Hp.gB,JZ q f,qAl];exact G⟩
noncomputable def VG.prgM:fP:={ toProgram:=p,still:=λ_=>false,stillNil:=λ_ _=>rfl,toEnv:=T.envM }
def X2(i:Nat)(c:Hp)(op:MemOp):Prop:=op.g=i/\((∃loc h,op.act=.access ⟨loc,h,false⟩/\∀b,loc.j0=some b->c b=none)\/(∃f,op.act=.mark (.extern f))\/op.act=.mark .noRoom)
def PD(i:Nat)(op:MemOp):Prop:=op.g=i/\(op.act=.mark .disable\/op.act=.mark .enable)
structure VG.Sound:Prop where
 own:∀{s Hs t},T.Inv s Hs t->∀b x,Hs b=some x->x.2=true
 z6:∀{s Hs t i u},T.Inv s Hs t->i<T.next s->T.act (T.tag s i)->(∀op∈u,X2 i Hs op)->T.Inv s Hs (t++u)
 mute:∀{s Hs t i u},T.Inv s Hs t->i<T.next s->T.tag s i=T.left->(∀op∈u,PD i op)->T.Inv s Hs (t++u)
 live:∀{s Hs t} (D:Nat->Option Bool),T.Inv s Hs t->(∀j,j<T.next s->T.tag s j≠T.left->T.Blk s j\/(T.cls s=false/\∃d,D j=some d/\T.can d (T.tag s j)))->(∀j k,D j=some true->D k=some false->False)->False
 chan:∀{s Hs t},T.Inv s Hs t->∃n,Hs T.ch=some (.chan 0 #[] (T.cls s) n n false,true)
 hears:∀{s Hs t j d},T.Inv s Hs t->j<T.next s->T.can d (T.tag s j)->Deaf t j=0
 FU:∀{s Hs t j},T.Inv s Hs t->j<T.next s->T.can false (T.tag s j)->j≠0
 FO:∀{s Hs t j},T.Inv s Hs t->j<T.next s->T.can true (T.tag s j)->T.cls s=false
 qO:∀{d g},T.can d g->T.act g
 FT:∀{s Hs t j},T.Inv s Hs t->j<T.next s->T.can true (T.tag s j)->j=0
 meet:∀{s Hs t b n g' v Hm},T.Inv s Hs t->0<T.next s->b<T.next s->b≠0->T.cls s=false->Hs T.ch=some (.chan 0 #[] false n n false,true)->T.can true (T.tag s 0)->T.can false (T.tag s b)->T.puts (T.tag s 0) g' v Hm ->
  ∃s' gb,T.gets (T.tag s b) gb v Hm/\(∀j,T.tag s' j=if j=0 then g' else if j=b then gb else T.tag s j)/\T.next s'=T.next s/\T.more s'<T.more s/\T.cls s'=false/\(∀j,T.Blk s j->T.Blk s' j) /\
   ∀u:Trace,(∀op∈u,op.g=0\/op.g=b)->(∀op∈u,op.act=.send T.ch n\/op.act=.recv T.ch n 0\/op.act=.sendDone T.ch n\/op.act=.recvDone T.ch n)->T.Inv s' (Hs.ins T.ch (.chan 0 #[] false (n+1) (n+1) false)) (t++u)
 FR:∀{s Hs t b},T.Inv s Hs t->b<T.next s->T.cls s=true->T.can false (T.tag s b) ->
  ∃s',(∀j,T.tag s' j=if j=b then T.shut (T.tag s b)else T.tag s j)/\T.next s'=T.next s/\T.more s'<=T.more s/\T.cls s'=true/\(∀j,T.Blk s j->T.Blk s' j)/\∀u:Trace,(∀op∈u,op.g=b/\op.act=.recvClosed T.ch)->T.Inv s' Hs (t++u)
 v7:¬ T.act T.left
 vL:¬ T.hsh T.left
 uA:∀d,¬ T.act (lv d)
 pG:∀g,T.act g->¬ T.hsh g
 AG:∀d,¬ T.hsh (lv d)
 FN:∀d,T.stl (lv d)=true
 zZ:∀g,T.hsh g->T.stl g=true
end
