import Derived.Test.YtlhomfgcibjccaaGreatDoorP01
import Derived.Test.YtlhomfgcibjccaaGreatDoorP04
import Derived.Test.YtlhomfgcibjccaaGreatDoorP06
import Derived.Conc.Beside
import Derived.Conc.MuSpec
import Derived.Conc.CrowdComm
set_option linter.all false
namespace Go.LL
section
variable{t e E sT T t2:TypeId}{sz b len bV i n dI r cap lo:Nat}{o:Op}{s:Sem Value}{xs:Array Operand}{ts:Array TypeId}{vs cs:List Value}{zv w:Value}{k k2:IntKind}{a:Addr}{m:Int}
structure TI(p:Program)(t:TypeId)(sz:Nat)(z:Value)(dI:Nat):Prop where
 ex:∃i,p.info? t=some i/\i.size=sz/\i.zero=some z/\i.bytes=dI
def Yl(p:Program)(t:TypeId):Option (Nat×Option Value×Nat):=(p.info? t).map λi=>(i.size,i.zero,i.bytes)
def ZgP{p:Program}{z:Value}(h:Yl p t=some (sz,some z,b)):TI p t sz z b:=by unfold Yl at h;rw[qAL]at h;obtain⟨i,f,c⟩:=h;simp only[qBD]at c;exact⟨i,f,c.1,c.2.1,c.2.2⟩
section
variable{P:aX}{d:Option Nat}{next:aM->Hp->Prop}{σ:aM}{H:Hp}{x y z:Operand}{v:Value}{ty:TypeId}
def YS(f:(o.operands.all λx=>(σ.get x).isSome)=true)(e:execOp (λx=>(σ.get x).getD undef) (aR o ty)=(do let v <-s;pure (.value v)))(h:bL P s (λv _ c=>next (σ.set d v) c) false H):(bE.raw o ty).m P d next σ H:=by refine⟨f,.inl ?_⟩;rw[e,Zg];exact Vi (λv g H h=>(.inr h:_\/_)) h
def Zis(f:(o.operands.all λx=>(σ.get x).isSome)=true){s:Sem Unit}(e:execOp (λx=>(σ.get x).getD undef) (aR o ty)=(do s;pure .skip))(h:bL P s (λ_ _ c=>next (σ.set d undef) c) false H):(bE.raw o ty).m P d next σ H:=by refine⟨f,.inl ?_⟩;rw[e,Zg];exact Vi (λv g H h=>(.inr h:_\/_)) h
def ZsK{x:Operand}{v:Value}(e:σ.get x=some v)(g:σ.gets xs.toList=some vs):((Op.call { callee:=.value x,args:=xs,argTypes:=ts }).operands.all λx=>(σ.get x).isSome)=true:=by
 have f:=(Od g).2;rw[qAm];intro y c;simp only[Op.operands,Call.operands]at c;simp only[IN]at f;simp only[qBG,qBt,qBx,qAv,oR,qBh]at c f;rcases c with rfl | c
 ·rw[e];rfl
 exact f y c
def ZM{A:Value}{c:Value->Hp->Prop}(e:σ.get x=some A)(B:σ.gets xs.toList=some vs)(h:ZV P A vs.toArray H c)(q:∀v u,c v u->next (σ.set d v) u) :
  (bE.raw (.call { callee:=.value x,args:=xs,argTypes:=ts }) ty).m P d next σ H:=by
 refine⟨ZsK e B,.inl ?_⟩;have F:xs.map (λx=>(σ.get x).getD undef)=vs.toArray:=by obtain⟨xs⟩:=xs;simp only[qCo];rw[(Od B).1]
 have C:execOp (λx=>(σ.get x).getD undef) (aR (.call { callee:=.value x,args:=xs,argTypes:=ts }) ty)=OR A vs.toArray:=by simp only[execOp,aR,resolve,F,OR,e,Option.getD_some]
 rw[C];refine Vi ?_ h;rintro n g u (D | j)
 ·exact .inl D
 refine .inr ?_;cases n with
 | value v=>exact q _ _ j
 | skip=>exact q _ _ j
 | enter f args=>exact Zc.mono j q
 | round l f tmps aA G=>exact UX.mono j q
 | _=>exact j.elim
def LC{cs:Array Value}(q:P.toProgram.underlying t=some (.array len e))(C:TI P.toProgram e bV zv b)(c:Yd P.toProgram e=some none)(f:σ.get x=some (.agg cs))(g:σ.get y=some (.int k (i:Int)))(D:i<len)(l:cs[i * bV]? = some v)
  (h:next (σ.set d v) H):(bE.raw (.index t x y) ty).m P d next σ H:=by
 obtain⟨B,u,A,F,G⟩:=C.ex;refine YS (by simp[Op.operands,f,g]) (s:=Instr.index t (.agg cs) (.int k (i:Int))) (by simp[execOp,aR,f,g]) ?_;have j:(0:Int)<=(i:Int)/\(i:Int)<(len:Nat):=⟨O,O⟩;simp only[Instr.index,Zg,asIntOf,Zj,Zw q,iF j,Z4 u,part,OS c,A,qAD,l,DO,qAw];exact h
def jN(H:Hp)(E:TypeId)(bV:Nat)(v:Value)(cs:List Value)(n:Nat)(b:Option Nat):Prop:=
 cs.length=n * bV/\((v=.slice none 0 0/\n=0/\b=none)\/∃r cap rest,b=some r/\v=.slice (some ⟨r,0,none⟩) n cap/\H r=some (.cells (cs++rest).toArray E (0,0),true)/\(cs++rest).length=cap * bV/\n<=cap)
def jN.nil(H:Hp)(E:TypeId)(bV:Nat):jN H E bV (.slice none 0 0) [] 0 none:=⟨by simp,.inl ⟨rfl,rfl,rfl⟩⟩
structure C7(H H':Hp)(b b':Option Nat):Prop where
 gh:H'.gh=H.gh
 keep:∀c y,H c=some y->b≠some c->H' c=some y
 new:b'=b\/∃r,b'=some r/\H r=none
theorem jN.sub{H f:Hp}{v:Value}{b:Option Nat}(h:jN H E bV v cs n b)(A:∀c y,b=some c->H c=some y->f c=some y):jN f E bV v cs n b:=by obtain⟨j,h⟩:=h;refine⟨j,h.imp id ?_⟩;rintro⟨r,cap,rest,g,l,q,u⟩;exact⟨r,cap,rest,g,l,A r _ g q,u⟩
def jN.cells{H:Hp}{v:Value}{b:Option Nat}(h:jN H E bV v cs n b):∃A c,v=.slice A n c/\(n≠0->∃a,A=some a/\aC H a cs):=by
 obtain⟨u,⟨g,f,l⟩ | ⟨r,cap,rest,g,f,l,B,C⟩⟩:=h
 ·subst f;exact⟨none,0,g,λh=>absurd rfl h⟩
 refine⟨some ⟨r,0,none⟩,cap,f,λ_=>⟨_,rfl,rfl,_,_,l,λj q=>?_⟩⟩;simp only[Obj.mB,qAE,qAH];rw[qBf q]
def Zl1(n:Nat):∀(r c:Nat),Builtin.growBy n r c<=max c (n+(n+768) / 4)
 | 0,c=>by unfold Builtin.growBy;omega
 | r+1,c=>by
  unfold Builtin.growBy;split
  ·omega
  have:=Zl1 n r (c+(c+768) / 4);omega
def B7{need old:Nat}(h:old<need):Builtin.nextslicecap need old<=2 * need+200:=by
 unfold Builtin.nextslicecap;split
 ·omega
 split
 ·omega
 have:=Zl1 need 4 old;omega
def yS{P:PQ}{H:Hp}(c:P.still H.gh=false)(q:aC H a cs){Q:Array Value->Bool->Hp->Prop}{g:Bool}(B:Q cs.toArray g H)(A:cs.length=n):bL P (loadCells a n) Q g H:=by obtain⟨f,o,p,h,l⟩:=q;subst A;unfold loadCells;exact LY c h f Q g cs 0 #[] (λj u=>by rw[qAE];exact l j u) (by simpa using B)
def B8(zero:Array Value)(n:Nat):(Builtin.zeroCells zero n).size=n * zero.size:=by simp[Builtin.zeroCells]
def Zx8{m:Nat}{s:Value}{xs:List Value}{b:Option Nat}(hu:P.toProgram.underlying sT=some (.slice E))(ti:TI P.toProgram E bV zv dI)(hz:zv.cells.size=bV)(he:0<bV)
  (ho:jN H E bV s cs n b) (hw:(m=0/\∃A c,w=.slice A 0 c)\/∃a c,w=.slice (some a) m c/\aC H a xs) (G:xs.length=m * bV) (Y:(xs.all Value.cJ)=true) (hb1:n+m<=1000000000) (Z:dI<=1000) (u:P.still H.gh=false)
  {K:Value->Hp->Prop} (h:∀v' C b',jN C E bV v' (cs++xs) (n+m) b'->C7 H C b b'->K v' C):bL P (Builtin.append_ #[sT,sT] T #[s,w]) (λv _ C=>K v C) false H:=by
 obtain⟨CK,V,i2,i3,i4⟩:=ti.ex;obtain⟨D,J⟩:=ho;have S:∀Q g,Q m g H->bL P (Builtin.lenOf w) Q g H:=by intro Q g B;rcases hw with⟨rfl,A,c,rfl⟩ | ⟨a,c,rfl,_⟩<;>simpa[Builtin.lenOf,Zj]using B
 have l:∀(Q:Array Value->Bool->Hp->Prop) g,Q xs.toArray g H->bL P (Builtin.firstCells bV m w) Q g H:=by
  intro Q g B;rcases hw with⟨rfl,A,c,rfl⟩ | ⟨a,c,rfl,F⟩
  ·have:xs=[]:=qAb (by simpa using G);subst this;cases A<;>simpa[Builtin.firstCells,Zj,loadCells,loadCellsFrom]using B
  simp only[Builtin.firstCells];exact yS u F B G
 have main:∀(f:Option Addr) (cap:Nat),s=.slice f n cap->(n+m<=cap->bL P (Builtin.firstCells bV m w) (λnew g H1=>match f with | some a=>bL P (storeCells (a.add (n * bV)) new.toList) (λ_ _ C=>K (.slice f (n+m) cap) C) g H1 | none=>K (.slice f (n+m) cap) H1) false H) ->
   (cap<n+m->∀(Q:Array Value->Bool->Hp->Prop) g,Q cs.toArray g H->bL P (Builtin.firstCells bV n s) Q g H)->(cap<n+m->b=none\/∃r,b=some r)->bL P (Builtin.append_ #[sT,sT] T #[s,w]) (λv _ C=>K v C) false H:=by
  intro f cap hs M U hb
  have W:((TypeDesc.slice E) matches .int _)=false:=rfl
  simp only[Builtin.append_,qAH,qAV,qAT,Zg,Zw hu,hs,Z4 V,i2,Zj,DO,qAw]
  refine S _ _ ?_
  simp only[qBU,qBp]
  by_cases q:n+m<=cap
  ·rw[iF q];have:=M q;cases f<;>simpa only[Zg,Zj]using this
  ·rw[aT q];simp only[Zg,O1 V,i4];rw[aT (by rintro⟨h,_⟩;simp[IntKind.max,IntKind.bits,IntKind.signed]at h;omega)];simp only[Zg,Zj,O1 V,i4];have R:¬ Builtin.nextslicecap (n+m) cap * dI > 2 ^ 48:=by have Y:=B7 (need:=n+m) (old:=cap) O;have h2:Builtin.nextslicecap (n+m) cap * dI<=(2 * (n+m)+200) * 1000:=qBq Y Z;omega
   rw[aT R];simp only[Zg,Zj,choose];rw[bL];simp only[Question.forced,DO,qAw];refine⟨u,λt=>?_⟩;have I:n+m<=(Question.appendCap (n+m) cap E).cut t:=by simp only[Question.cut];omega
   generalize(Question.appendCap (n+m) cap E).cut t=X at I;rw[bL];have N:∀(Q:Unit->Bool->Hp->Prop),Q () false H->bL P (askRoom (X * dI)) Q false H:=by
    intro Q B;unfold askRoom;split
    ·exact⟨.inr ⟨rfl,u⟩,B⟩
    exact B
   rw[O1 V,i4];refine N _ ?_;refine hs ▸ U O _ _ ?_;refine l _ _ ?_;simp only[UC V i3,newRow,Zg,newObj,Zj];refine⟨u,λr hr=>?_⟩;have L:C7 H (H.ins r (.cells (cs.toArray++xs.toArray++Builtin.zeroCells zv.cells (X-(n+m))) E)) b (some r):=by refine⟨rfl,λc y F _=>?_,.inr ⟨r,rfl,hr⟩⟩;rw[Hp.aH _ _ (by rintro rfl;rw[hr]at F;simp at F)];exact F
   refine h _ _ _ ⟨by rw[BY,D,G,qCi],.inr ⟨r,X,(Builtin.zeroCells zv.cells (X-(n+m))).toList,rfl,rfl,?_,?_,I⟩⟩ L
   ·rw[Hp.aG];simp
   simp only[BY,D,G,qBy,B8,hz];rw[<-qCi,<-qCi];congr 1;omega
 rcases J with⟨rfl,rfl,rfl⟩ | ⟨r,cap,rest,rfl,rfl,h3,h4,h5⟩
 ·have hcs:cs=[]:=qAb (by simpa using D);subst hcs;refine main none 0 rfl (λq=>?_) (λ_ Q g B=>by simpa[Builtin.firstCells,Zj]using B) (λ_=>.inl rfl);have hm:m=0:=O;subst hm;have GY:xs=[]:=qAb (by simpa using G);subst GY;refine l _ _ ?_;exact h _ _ none ⟨by simp,.inl ⟨rfl,rfl,rfl⟩⟩ ⟨rfl,λc y F _=>F,.inl rfl⟩
 refine main (some ⟨r,0,none⟩) cap rfl (λq=>?_) (λ_ Q g B=>?_) (λ_=>.inr ⟨r,rfl⟩)
 ·refine l _ _ ?_;show bL _ _ _ _ _;have ha:(⟨r,0,none⟩:Addr).add (n * bV)=⟨r,n * bV,none⟩:=by rw[WF rfl,qAE]
  rw[ha];have aHP:n * bV+m * bV<=cap * bV:=by rw[<-qCi];exact qCT _ q
  rw[BY,D]at h4;refine LO _ _ xs (n * bV) 0 (cs++rest) H u h3 Y (by rw[BY,D,G];omega) ?_;refine h _ _ (some r) ⟨by rw[BY,D,G,qCi],.inr ⟨r,cap,rest.drop (m * bV),rfl,rfl,?_,?_,q⟩⟩ ⟨rfl,λc y F pK=>?_,.inl rfl⟩
  ·rw[Hp.aG];have e1:(cs++rest).take (n * bV+0)=cs:=by rw[qCW,qDq O,qCt O]
   have e2:(cs++rest).drop (n * bV+0+xs.length)=rest.drop (m * bV):=by rw[qCW,G,qEi,qBw O,qBt,D];congr 1;omega
   rw[e1,e2]
  ·simp only[BY,D,G,qDM];omega
  rw[Hp.aH _ _ (by rintro rfl;exact pK rfl)];exact F
 simp only[Builtin.firstCells];refine yS (cs:=cs) u ⟨rfl,_,_,h3,λj hj=>?_⟩ B D;simp only[Obj.mB,qAE,qAH];rw[qBf hj]
def QQ{f:TypeId}{m:Nat}{s:Value}{xs:List Value}{b:Option Nat}(B:P.toProgram.underlying sT=some (.slice E))(C:P.toProgram.underlying f=some (.slice E))(J:TI P.toProgram E bV zv dI)(R:zv.cells.size=bV)(M:0<bV)
  (F:σ.get x=some s) (G:σ.get y=some w)
  (O:jN H E bV s cs n b) (Q:(m=0/\∃A c,w=.slice A 0 c)\/∃a c,w=.slice (some a) m c/\aC H a xs) (N:xs.length=m * bV) (L:(xs.all Value.cJ)=true) (l:n+m<=1000000000) (q:dI<=1000) (u:P.still H.gh=false)
  (h:∀K g D,jN g E bV K (cs++xs) (n+m) D->C7 H g b D->next (σ.set d K) g):(bE.raw (.call { callee:=.builtin .append,args:=#[x,y],argTypes:=#[sT,f] }) T).m P d next σ H:=by
 refine YS (s:=Builtin.append_ #[sT,f] T #[s,w]) (by simp[Op.operands,Call.operands,F,G]) (by simp[execOp,aR,resolve,invoke,builtin,F,G]) ?_;have:Builtin.append_ #[sT,f] T #[s,w]=Builtin.append_ #[sT,f] T #[s,w]:=rfl;have I:=Zx8 (T:=T) B J R M O Q N L l q u h;obtain⟨S,U,_⟩:=J.ex;by_cases e:f=sT
 ·rw[e];exact I
 have key:bL P.toPQ (Builtin.append_ #[sT,f] T #[s,w]) (λv _ g=>next (σ.set d v) g) false H↔bL P.toPQ (Builtin.append_ #[sT,sT] T #[s,w]) (λv _ g=>next (σ.set d v) g) false H:=by simp only[Builtin.append_,qAH,qAV,qAT,Zg,Zw B];cases s<;>simp only[Zg,Zw C,Zw B,Zj]
 exact key.2 I
def Yf{H:Hp}{o:Obj}(g:H r=none):H.Sub (H.ins r o):=⟨λc y f=>by rw[Hp.aH _ _ (by rintro rfl;rw[g]at f;simp at f)];exact f,rfl⟩
def Vt(q:TI P.toProgram t sz zv dI)(c:P.still H.gh=false)(h:∀r,H r=none->next (σ.set d (.pointer (some ⟨r,0,none⟩))) (H.ins r (.cells zv.cells t))):(bE.raw (.alloc t) ty).m P d next σ H:=by obtain⟨l,g,u,j,A⟩:=q.ex;refine YS (by simp[Op.operands]) (s:=Instr.alloc t true (.tuple #[])) (by simp[execOp,aR]) ?_;simp only[Instr.alloc,Zg,UC g j,newVar,newRow,newObj,Zj];exact⟨c,λr f=>h r f⟩
def V9(e:σ.get x=some v)(c:P.still H.gh=false)(h:∀r,H r=none->next (σ.set d (.pointer (some ⟨r,0,none⟩))) (H.ins r (.cells v.cells t))):(bE.raw (.box t x) ty).m P d next σ H:=by refine YS (by simp[Op.operands,e]) (s:=Instr.box t v) (by simp[execOp,aR,e]) ?_;simp only[Instr.box,Zg,newVar,newRow,newObj,Zj];exact⟨c,λr f=>h r f⟩
def wF{off:Nat}(C:TI P.toProgram t sz zv dI)(g:σ.get x=some (.pointer (some ⟨b,off,none⟩)))(j:σ.get y=some v)(hb:H b=some (.cells cs.toArray E (0,0),true))(l:v.cells.size=sz)(D:off+sz<=cs.length)(q:(v.cells.toList.all Value.cJ)=true)
  (f:P.still H.gh=false) (h:next (σ.set d undef) (H.ins b (.cells (ZG cs off v.cells.toList).toArray E))):(bE.raw (.store t x y) ty).m P d next σ H:=by
 obtain⟨B,u,A,F,G⟩:=C.ex;refine Zis (by simp[Op.operands,g,j]) (s:=Instr.storeAt t (.pointer (some ⟨b,off,none⟩)) v) (by simp[execOp,aR,g,j]) ?_;have c:¬ v.cells.size≠sz:=by simp[l]
 simp only[Instr.storeAt,Instr.sureAddr,storeVar,Zg,Zj,Z4 u,A,aT c];refine LO _ _ v.cells.toList off 0 cs H f hb q (by simp[l];omega) ?_;unfold ZG at h;exact h
def Vq{g:Value}(u:TI P.toProgram t 1 zv dI)(j:σ.get x=some (.pointer (some ⟨b,0,none⟩)))(l:σ.get y=some v)(hb:H b=some (.cells #[g] E (0,0),true))(c:v.cells=#[v])(q:Value.cJ v=true)
  (f:P.still H.gh=false) (h:next (σ.set d undef) (H.ins b (.cells #[v] E))):(bE.raw (.store t x y) ty).m P d next σ H:=by
 refine wF u j l (cs:=[g]) hb (by rw[c];rfl) (by simp) (by rw[c];simpa using q) f ?_;rw[c];exact h
def Zip(q:TI P.toProgram t sz zv dI)(f:σ.get x=some (.pointer (some ⟨b,0,none⟩)))(g:σ.get y=some v)(hb:H b=some (.cells cs.toArray E (0,0),true))(j:v.cells.size=sz)(u:cs.length=sz)(l:(v.cells.toList.all Value.cJ)=true)
  (c:P.still H.gh=false) (h:next (σ.set d undef) (H.ins b (.cells v.cells E))):(bE.raw (.store t x y) ty).m P d next σ H:=by
 refine wF q f g hb j O l c ?_;have:ZG cs 0 v.cells.toList=v.cells.toList:=by unfold ZG;rw[qCa,qBt,qBw (by simp;omega),qAf]
 rw[this];exact h
def qZ(g:P.toProgram.underlying t=some (.slice E))(q:TI P.toProgram E sz zv dI)(c:P.still H.gh=false)(h:∀r,H r=none->next (σ.set d (.slice (some ⟨r,0,none⟩) 0 0)) (H.ins r (.cells #[] E))):(bE.raw (.buildSlice t 0 #[]) ty).m P d next σ H:=by
 obtain⟨l,j,u,A,B⟩:=q.ex;refine YS (by simp[Op.operands]) (s:=Instr.buildSlice t 0 #[]) (by simp[execOp,aR]) ?_;simp only[Instr.buildSlice,Zg,Zw g,Z4 j,qDm,Zj];simp only[Instr.fill,newRow,newObj,Zg,Zj];simp;refine⟨c,λr f=>?_⟩;have e:(Array.map (λ_=>(default:Value)) (Array.range 0))=#[]:=by simp
 rw[e];exact h r f
def Bi{H:Hp}:jN (H.ins r (.cells #[] E)) E bV (.slice (some ⟨r,0,none⟩) 0 0) [] 0 (some r):=⟨by simp,.inr ⟨r,0,[],rfl,rfl,Hp.aG _ _ _,by simp,dO _⟩⟩
def VQ{f:Fn}{c cs:Array Operand}{g c1:List Value}(D:σ.gets c.toList=some g)(C:σ.gets cs.toList=some c1)(h:next (σ.set d (.func f g.toArray c1.toArray)) H) :
  (bE.raw (.makeFunc f c cs) ty).m P d next σ H:=by
 obtain⟨j,l⟩:=Od D;obtain⟨q,u⟩:=Od C;have A:c.map (λx=>(σ.get x).getD undef)=g.toArray:=by obtain⟨c⟩:=c;simp only[qCo];rw[j]
 have B:cs.map (λx=>(σ.get x).getD undef)=c1.toArray:=by obtain⟨cs⟩:=cs;simp only[qCo];rw[q]
 refine YS ?_ (s:=Instr.makeFunc f g.toArray c1.toArray) (by simp[execOp,aR,A,B]) h;simp only[Op.operands,Array.all_append,qAc];exact⟨by rw[<-Array.all_toList];exact l,by rw[<-Array.all_toList];exact u⟩
def Uq{P:PQ}{v:Value}(h:∀(Q:Value->Bool->Hp->Prop) (g:Bool) (H:Hp),Q v g H->bL P s Q g H):oT P (do let v <-s;pure (.value v)) v:=by intro Q g H c;rw[Zg];exact h _ _ _ c
def q8{n:Int}(c:σ.get x=some (.int k m))(f:σ.get y=some (.int k n))(h:next (σ.set d (.int k (max m n))) H):(bE.bU (.call { callee:=.builtin .max,args:=#[x,y],argTypes:=ts }) ty).m P d next σ H:=by
 have e:(if n > m then n else m)=max m n:=O;refine Vd (by simp[Op.operands,Call.operands,c,f]) ?_ h;have:execOp (λx=>(σ.get x).getD undef) (aR (.call { callee:=.builtin .max,args:=#[x,y],argTypes:=ts }) ty)=(do let v <-Builtin.max_ ts ty #[.int k m,.int k n];pure (.value v)):=by simp[execOp,aR,resolve,invoke,builtin,c,f]
 rw[this];refine Uq λQ g H j=>?_;simp only[Builtin.max_,List.foldlM,Builtin.max2,Zg,Zj,e];exact j
def z5{n:Int}(c:σ.get x=some (.int k m))(f:σ.get y=some (.int k n))(h:next (σ.set d (.int k (min m n))) H):(bE.bU (.call { callee:=.builtin .min,args:=#[x,y],argTypes:=ts }) ty).m P d next σ H:=by
 have e:(if n<m then n else m)=min m n:=O;refine Vd (by simp[Op.operands,Call.operands,c,f]) ?_ h;have:execOp (λx=>(σ.get x).getD undef) (aR (.call { callee:=.builtin .min,args:=#[x,y],argTypes:=ts }) ty)=(do let v <-Builtin.min_ ts ty #[.int k m,.int k n];pure (.value v)):=by simp[execOp,aR,resolve,invoke,builtin,c,f]
 rw[this];refine Uq λQ g H j=>?_;simp only[Builtin.min_,List.foldlM,Builtin.min2,Zg,Zj,e];exact j
def VD{n:Int}(c:σ.get x=some (.int .i64 m))(f:σ.get y=some (.int .i64 n))(j:n≠0)(q:pZ (m.tdiv n))(h:next (σ.set d (.int .i64 (m.tdiv n))) H):(bE.bU (.binOp .quo t x y t2) ty).m P d next σ H:=by
 refine Vd (by simp[Op.operands,c,f]) ?_ h;have:execOp (λx=>(σ.get x).getD undef) (aR (.binOp .quo t x y t2) ty)=pure (.value (.int .i64 (m.tdiv n))):=by simp[execOp,aR,c,f,eqGuard,binOp,Op.intDiv,j,Uk q]
 rw[this];exact λQ g H l=>l
def LD{o:BinOp}{n:Int}(f:σ.get x=some (.int k m))(j:σ.get y=some (.int k n))(l:o=.and\/o=.or\/o=.xor\/o=.andNot)(u:(match o with | .xor=>.int k (k.wrap (BitVec.ofInt k.bits m ^^^ BitVec.ofInt k.bits n).toNat) | o=>Zy o k m n)=v)(h:next (σ.set d v) H) :
  (bE.bU (.binOp o t x y t2) ty).m P d next σ H:=by
 refine Vd (by simp[Op.operands,f,j]) ?_ h;subst u;rcases l with rfl | rfl | rfl | rfl<;>(simp only[execOp,aR,f,j,Option.getD_some];exact λQ g H q=>by simpa[Zg,Zj,eqGuard,binOp,Op.intBits,Zy]using q)
def I4{o:BinOp}{n:Int}(f:σ.get x=some (.int k m))(j:σ.get y=some (.int k2 n))(l:o=.shr\/o=.shl)(A:0<=n)(u:Zy o k m n=v)(h:next (σ.set d v) H) :
  (bE.bU (.binOp o t x y t2) ty).m P d next σ H:=by
 refine Vd (by simp[Op.operands,f,j]) ?_ h;subst u;have:¬ n<0:=O;rcases l with rfl | rfl<;>(simp only[execOp,aR,f,j,Option.getD_some];exact λQ g H q=>by simpa[Zg,Zj,eqGuard,binOp,Op.shift,Zy,this]using q)
def Vs{s:TypeId}{k0:IntKind}(j:P.toProgram.underlying s=some (.int k0))(l:P.toProgram.underlying t=some (.int k))(c:σ.get x=some (.int k0 m))(h:next (σ.set d (.int k (k.wrap m))) H):(bE.bU (.convert s t x) ty).m P d next σ H:=by
 refine Vd (by simp[Op.operands,c]) ?_ h;have:execOp (λx=>(σ.get x).getD undef) (aR (.convert s t x) ty)=(do let v <-convert s t (.int k0 m);pure (.value v)):=by simp[execOp,aR,c]
 rw[this];refine Uq λQ g H f=>?_;simp only[convert,Zg,Zw j,Zw l,Conv.intToInt,Zj];exact f
def VE(e:σ.get x=some (.pointer (some a)))(h:next (σ.set d (.pointer (some a))) H):(bE.bU (.nilCheck x) ty).m P d next σ H:=by
 refine Vd (by simp[Op.operands,e]) ?_ h;have:execOp (λx=>(σ.get x).getD undef) (aR (.nilCheck x) ty)=pure (.value (.pointer (some a))):=by simp[execOp,aR,e]
 rw[this];exact λQ g H c=>c
def Ik{a:Option Addr}(u:P.toProgram.underlying t=some (.slice E))(D:TI P.toProgram E sz zv dI)(c:σ.get x=some (.slice a len cap))(f:σ.get y=some (.int k (lo:Int)))(l:lo<=len)
  (h:next (σ.set d (.slice (if cap=lo then a else a.map (·.add (lo * sz))) (len-lo) (cap-lo))) H):(bE.bU (.slice t x (some y) none none) ty).m P d next σ H:=by
 obtain⟨C,A,B,F,G⟩:=D.ex;refine Vd (by simp[Op.operands,c,f]) ?_ h;have:execOp (λx=>(σ.get x).getD undef) (aR (.slice t x (some y) none none) ty)=(do let v <-Instr.sliceAt t (.slice a len cap) (some (.int k (lo:Int))) none none;pure (.value v)):=by simp[execOp,aR,c,f]
 rw[this];refine Uq λQ g H q=>?_;have j:(0:Int)<=(lo:Int)/\(lo:Int)<=(len:Nat):=⟨O,O⟩;simp only[Instr.sliceAt,Zg,Zw u,Instr.slice,Instr.sliceBounds,Instr.sliceBound,asIntOf,Zj,iF j,Z4 A,B,qAD];exact q
def IE{hi:Nat}{a:Option Addr}{u B:Option Operand}(A:P.toProgram.underlying t=some (.slice E))(K:TI P.toProgram E sz zv dI)(j:σ.get x=some (.slice a len cap))(l:(u=none/\lo=0)\/∃y,u=some y/\σ.get y=some (.int k (lo:Int)))(c:∃z,B=some z/\σ.get z=some (.int k2 (hi:Int)))(I:lo<=hi)(G:hi<=cap)
  (h:next (σ.set d (.slice (if cap=lo then a else a.map (·.add (lo * sz))) (hi-lo) (cap-lo))) H):(bE.bU (.slice t x u B none) ty).m P d next σ H:=by
 obtain⟨J,C,D,L,M⟩:=K.ex;obtain⟨z,rfl,c⟩:=c;have F:(0:Int)<=(lo:Int)/\(lo:Int)<=(hi:Nat):=⟨O,O⟩;have f:(0:Int)<=(hi:Int)/\(hi:Int)<=(cap:Nat):=⟨O,O⟩;rcases l with⟨rfl,rfl⟩ | ⟨y,rfl,l⟩
 ·refine Vd (by simp[Op.operands,j,c]) ?_ h;have:execOp (λx=>(σ.get x).getD undef) (aR (.slice t x none (some z) none) ty)=(do let v <-Instr.sliceAt t (.slice a len cap) none (some (.int k2 (hi:Int))) none;pure (.value v)):=by simp[execOp,aR,j,c]
  rw[this];refine Uq λQ g H q=>?_;simp only[Instr.sliceAt,Zg,Zw A,Instr.slice,Instr.sliceBounds,Instr.sliceBound,asIntOf,Zj,iF f,Z4 C,D,qAD];exact q
 refine Vd (by simp[Op.operands,j,l,c]) ?_ h;have:execOp (λx=>(σ.get x).getD undef) (aR (.slice t x (some y) (some z) none) ty)=(do let v <-Instr.sliceAt t (.slice a len cap) (some (.int k (lo:Int))) (some (.int k2 (hi:Int))) none;pure (.value v)):=by simp[execOp,aR,j,l,c]
 rw[this];refine Uq λQ g H q=>?_;simp only[Instr.sliceAt,Zg,Zw A,Instr.slice,Instr.sliceBounds,Instr.sliceBound,asIntOf,Zj,iF F,iF f,Z4 C,D,qAD];exact q
def ZsX(j:P.toProgram.underlying t=some (.array len e))(A:TI P.toProgram e bV zv dI)(c:σ.get x=some (.pointer (some a)))(f:σ.get y=some (.int k (i:Int)))(B:i<len)
  (h:next (σ.set d (.pointer (some (a.add (i * bV))))) H):(bE.raw (.indexAddr t x y) ty).m P d next σ H:=by
 obtain⟨u,l,q,C,D⟩:=A.ex;refine YS (by simp[Op.operands,c,f]) (s:=Instr.indexAt t (.pointer (some a)) (.int k (i:Int))) (by simp[execOp,aR,c,f]) ?_;have g:(0:Int)<=(i:Int)/\(i:Int)<(len:Nat):=⟨O,O⟩;simp only[Instr.indexAt,Zg,asIntOf,Zj,Zw j,Instr.sureAddr,iF g,Z4 l,q,qAD];exact h
end
end
abbrev Nd:=Frame×List Frame×Hp
inductive Rk:Type
 | yG
 | node (f:Nd->Rk)
def Rk.lt:Rk->Rk->Prop
 | _,.yG=>False
 | y,.node f=>∃x,y=f x
def Rk.Hr:∀x:Rk,Acc Rk.lt x
 | .yG=>⟨_,λ_ h=>h.elim⟩
 | .node f=>⟨_,λ_ ⟨x,h⟩=>h ▸ Rk.Hr (f x)⟩
def Rk.ofNat:Nat->Rk
 | 0=>.yG
 | n+1=>.node λ_=>.ofNat n
def Rk.AW(n:Nat):Rk.lt (.ofNat n) (.ofNat (n+1)):=⟨(default,[],.nil),rfl⟩
def fO(Φ:(Nd->Prop)->Nd->Prop):Rk->Nd->Prop
 | .yG,_=>False
 | .node f,x=>Φ (λy=>fO Φ (f y) y) x
def ZpR{Φ:(Nd->Prop)->Nd->Prop}(g:∀{R c:Nd->Prop},(∀x,R x->c x)->∀x,Φ R x->Φ c x){x:Nd}(h:∀R:Nd->Prop,(∀x,Φ R x->R x)->R x):∃k,fO Φ k x:=by
 refine h (λx=>∃k,fO Φ k x) (λx j=>?_)
 classical
 refine⟨.node λy=>if h:∃k,fO Φ k y then h.choose else .yG,?_⟩
 refine g (λy f=>?_) x j
 simp only[dif_pos f]
 exact f.choose_spec
def fO.step{Φ:(Nd->Prop)->Nd->Prop}(j:∀{R c:Nd->Prop},(∀x,R x->c x)->∀x,Φ R x->Φ c x){k:Rk}{x:Nd}(h:fO Φ k x):Φ (λy=>∃g,Rk.lt g k/\fO Φ g y) x:=by
 cases k with
 | yG=>exact h.elim
 | node f=>exact j (λy l=>⟨f y,⟨y,rfl⟩,l⟩) x h
def KZ(n:Nat)(ρ' ρ:Nat->Rk):Prop:=∃j,j<n/\Rk.lt (ρ' j) (ρ j)/\∀k,k≠j->ρ' k=ρ k
theorem Ju:∀(n:Nat) (ρ:Nat->Rk),Acc (KZ n) ρ
 | 0,ρ=>⟨_,λ_ ⟨_,h,_⟩=>absurd h (qBm _)⟩
 | n+1,ρ=>by
  have key:∀x,Acc Rk.lt x->∀ρ,Acc (KZ n) ρ->ρ n=x->Acc (KZ (n+1)) ρ:=by
   intro x u;induction u with
   | intro x _ g=>
    intro ρ A;induction A with
    | intro ρ _ l=>
     intro e;refine⟨_,λρ' ⟨j,B,f,q⟩=>?_⟩;by_cases c:j=n
     ·subst c;exact g (ρ' j) (e ▸ f) ρ' (Ju j ρ') rfl
     exact l ρ' ⟨j,O,f,q⟩ ((q n (qAF c)).trans e)
  exact key _ (Rk.Hr _) ρ (Ju n ρ) rfl
abbrev Ms:=Nat×Nat×(Nat->Rk)×Nat
def qP(n:Nat):Ms->Ms->Prop:=Prod.Lex (·<·) (Prod.Lex (·<·) (Prod.Lex (KZ n) (·<·)))
def Zty(n:Nat):WellFounded (qP n):=
 ⟨λ⟨_,_,_,_⟩=>qDZ (Nat.lt_wfRel.wf.apply _) (λx=>by obtain⟨_,_,_⟩:=x;exact qDZ (Nat.lt_wfRel.wf.apply _) (λx=>by obtain⟨_,_⟩:=x;exact qDZ (Ju n _) (λ_=>Nat.lt_wfRel.wf.apply _) _) _) _⟩
variable{w w':World}{i:Nat}{fr:Frame}{es:Array Event}{t aI:Trace}{cs:List Frame}
open Go.Conc (Knows Deaf touchAt QuitsD rcase scase recvd parked)
abbrev gL(fr:Frame)(cs:List Frame):Goroutine:={ frame:=fr,callers:=cs,status:=.blocked,dying:=none }
def _root_.Go.Loc.gL:Loc->Option Nat
 | .cell a=>some a.block
 | .obj r=>some r
 | _=>none
def Hp.Dis(H F:Hp):Prop:=∀b x y,H b=some x->F b=some y->x=y/\x.2=false
def Hp.Dis.symm{H F:Hp}(h:H.Dis F):F.Dis H:=λb x y c f=>by obtain⟨e,p⟩:=h b y x f c;exact⟨e.symm,by rw[<-e];exact p⟩
def Hp.Dis.left{H F J:Hp}(h:(H.join F).Dis J):H.Dis J:=λb x y c f=>h b x y (Hp.aW c) f
def Hp.Dis.right{H F J:Hp}(g:H.Comp F)(h:(H.join F).Dis J):F.Dis J:=λb x y c f=>h b x y (Hp.bC g c) f
def Hp.Dis.join{H F J:Hp}(g:H.Dis J)(h:F.Dis J):(H.join F).Dis J:=λb x y c f=>by
 simp only[Hp.bH]at c;cases hh:H b with
 | none=>rw[hh]at c;exact h b x y c f
 | some z=>rw[hh]at c;exact g b x y (by rw[hh];exact c) f
structure xE(w w':World):Prop where
 os:Go.ConcM.OsLater w.os w'.os
 tape:w'.tape=w.tape
 out:w'.output=w.output
def xE.refl(w:World):xE w w:=⟨.refl _,rfl,rfl⟩
def xE.trans{a b c:World}(h:xE a b)(k:xE b c):xE a c:=⟨h.os.trans k.os,k.tape.trans h.tape,k.out.trans h.out⟩
def jD(H c:Hp)(w:World)(K:Hp):Prop:=∀b x,K b=some x->w.heap.size<=b\/∃y,(H b=some y\/c b=some y)/\(y.2=false->x=y)
def jD.dis{H g K F:Hp}(h:jD H g w K)(q:F.le w)(j:H.Dis F)(l:g.Dis F):K.Dis F:=by
 intro b x y A f;rcases h b x A with h | ⟨z,c,u⟩
 ·exact absurd (q.lt f) O
 have:z=y/\z.2=false:=c.elim (λc=>j b z y c f) (λc=>l b z y c f);rw[u this.2];exact this
def eU(t:Trace)(i:Nat)(H:Hp):Prop:=∀b o p,H b=some (o,p)->∀q a,touchAt t q=some a->a.loc.gL=some b->(p=true\/a.write=true)->Knows t i q
structure Vy(p:Program) where
 S:Type
 tag:S->Nat->List Nat
 next:S->Nat
 more:S->Nat
 Inv:S->Hp->Trace->Prop
 Blk:S->Nat->Prop
 act:List Nat->Prop
 hsh:List Nat->Prop
 left:List Nat
 stl:List Nat->Bool
 stlNil:stl []=true
 ch:Nat
 cls:S->Bool
 can:Bool->List Nat->Prop
 puts:List Nat->List Nat->Value->Hp->Prop
 gets:List Nat->List Nat->Value->Hp->Prop
 shut:List Nat->List Nat
def lv(d:Nat):List Nat:=[0,d]
def Hp.tagged(H:Hp)(g:List Nat):Hp:=⟨H.mem,g⟩
theorem Hp.kI(H:Hp)(g:List Nat)(b:Nat):H.tagged g b=H b:=rfl
def Hp.hQ{H F:Hp}(c:F.gh=[])(g:List Nat):(H.join F).tagged g=(H.tagged g).join F:=Hp.ext' (λb=>rfl) (by simp[Hp.bZ,Hp.tagged,c])
def Hp.Comp.tagged{H F:Hp}(h:H.Comp F)(j:F.gh=[])(g:List Nat):(H.tagged g).Comp F:=⟨λb x y c f=>h b x y c f,.inr j⟩
section
variable{p:Program}(T:Vy p)
structure gJ(i:Nat)(s:T.S)(Hs:Hp)(t:Trace)(w:World)(H:Hp)(aI:Trace)(s':T.S)(kG:Hp)(w':World):Prop where
 size:w.heap.size<=w'.heap.size
 keep:∀b,b<w.heap.size->(∀o,H b≠some (o,true))->(∀o,Hs b≠some (o,true))->w'.heap[b]? = w.heap[b]?
 leS:kG.le w'
 from2:jD H Hs w kG
 out:xE w w'
 evs:∀op∈aI,∀x,op.act.touch? = some x->∀b,x.loc.gL=some b->(∃o p,(H b=some (o,p)\/Hs b=some (o,p))/\(x.write=true->p=true))\/w.heap.size<=b
 norace:∀said q a,touchAt t q=some a->∀op∈aI,∀b,op.act.touch? = some b->a.conflicts said b->Knows t i q
 low:∀op∈aI,op.act.low w'.heap.size
 inv:T.Inv s' kG (t++aI)
structure gY(i:Nat)(Hs:Hp)(w:World)(H:Hp)(t':Trace)(kG:Hp)(w':World)(H':Hp):Prop where
 le:H'.le w'
 dis:H'.Dis kG
 aB:jD H Hs w H'
 perm:eU t' i H'
abbrev ZI(i:Nat)(fr:Frame)(es:Array Event):Trace:=MemOp.ofEvents i fr.fn fr.place es
structure dY(i:Nat)(H:Hp)(s:T.S)(Hs:Hp)(t:Trace)(w:World):Prop where
 inv:T.Inv s Hs t
 tag:T.tag s i=H.gh
 lt:i<T.next s
 le:H.le w
 leS:Hs.le w
 dis:H.Dis Hs
 perm:eU t i H
 low:∀op∈t,op.act.low w.heap.size
 above:∀j,T.next s<=j->Deaf t j=0
def On(i:Nat)(K:Trace->Frame->List Frame->Hp->Prop)(fr:Frame)(cs:List Frame)(H:Hp)(s:T.S)(q:Hp)(t:Trace)(w:World):Prop:=
 ∃h g w' l c f es,stepG p (i == 0) (cV fr cs) w=.go (cV h g) w' es/\gJ T i s q t w H (ZI i fr es) c f w'/\gY i q w H (t++ZI i fr es) f w' l /\
  (∀j,T.tag c j=if j=i then l.gh else T.tag s j)/\T.next c=T.next s/\T.more c<=T.more s/\(mayWake p (cV fr cs)=true\/∀j,T.Blk s j->T.Blk c j)/\(T.cls c=T.cls s\/(T.cls c=true/\mayWake p (cV fr cs)=true/\i=0))/\K (t++ZI i fr es) h g l
def T6(i:Nat)(fr:Frame)(cs:List Frame)(s:T.S)(w:World):Prop:=
 stepG p (i == 0) (cV fr cs) w=.go (gL fr cs) w #[]/\T.Blk s i
def yF(H:Hp):Prop:=∀b,H b=none
def Hp.aR(g:List Nat):Hp:=⟨λ_=>none,g⟩
def Vg:Frame->List Frame->Hp->Prop:=λ_ _ _=>False
theorem Oz:∀op∈ZI i fr es,op.g=i:=λop c=>by obtain⟨e,_,rfl⟩:=Go.Conc.mem_ofEvents c;rfl
def eU.own{u:Trace}{H:Hp}(h:eU t i H)(D:∀op∈u,op.g=i\/op.act.touch? = none):eU (t++u) i H:=by
 intro b o p hb q a C B F;obtain⟨x,A,c⟩:=Go.Conc.touch_of C;rcases Go.Conc.getElem?_append_cases A with⟨G,j⟩ | ⟨_,l⟩
 ·exact(h b o p hb q a (by rw[Go.Conc.touchAt_of j];exact c) B F).app u
 have:=Go.Conc.knows_own A;rcases D x l with f | f
 ·rwa [f]at this
 rw[f]at c;simp at c
def eU.join{H F:Hp}(h:eU t i H)(c:eU t i F):eU t i (H.join F):=by
 intro b o p hb;simp only[Hp.bH]at hb;cases hh:H b with
 | none=>rw[hh]at hb;exact c b o p hb
 | some z=>rw[hh]at hb;exact h b o p (by rw[hh];exact hb)
def eU.left{H F:Hp}(h:eU t i (H.join F)):eU t i H:=λb o p hb=>h b o p (Hp.aW hb)
def eU.right{H F:Hp}(c:H.Comp F)(h:eU t i (H.join F)):eU t i F:=λb o p hb=>h b o p (Hp.bC c hb)
def FZ{H F:Hp}(f:H.Comp F)(c:H.gh≠[]):F.gh=[]:=f.gh.resolve_left c
variable{T}
def dY.left{H F:Hp}{s:T.S}{c:Hp}(g:H.Comp F)(f:H.gh≠[])(h:dY T i (H.join F) s c t w):dY T i H s c t w:=
 ⟨h.inv,by rw[h.tag,Hp.bZ,FZ g f,qAf],h.lt,h.le.left,h.leS,h.dis.left,h.perm.left,h.low,h.above⟩
theorem gJ.frame{H F:Hp}{s u:T.S}{q c:Hp}(h:gJ T i s q t w H aI u c w'):gJ T i s q t w (H.join F) aI u c w':=
 ⟨h.size,λb hb f g=>h.keep b hb (λo B=>f o (Hp.aW B)) g,h.leS,λb x l=>(h.from2 b x l).imp id λ⟨y,C,A⟩=>⟨y,C.imp Hp.aW id,A⟩,h.out,
  λop j x l b hb=>(h.evs op j x l b hb).imp (λ⟨o,p,f,g⟩=>⟨o,p,f.imp Hp.aW id,g⟩) id,h.norace,h.low,h.inv⟩
def Au{H F Hs:Hp}(h:H.Dis F)(j:Hs.Dis F)(g:F.le w)(f:∀b,b<w.heap.size->(∀o,H b≠some (o,true))->(∀o,Hs b≠some (o,true))->w'.heap[b]? = w.heap[b]?):F.le w':=by intro b o p hb;rw[f b (g.lt hb) (λl c=>by simpa using(h b _ _ c hb).2) (λl c=>by simpa using(j b _ _ c hb).2)];exact g b o p hb
theorem gY.frame{H F:Hp}{s L:T.S}{f c:Hp}{u:Hp}(j:H.Comp F)(l:∀op∈aI,op.g=i\/op.act.touch? = none)(B:dY T i (H.join F) s f t w)
  (I:gJ T i s f t w H aI L c w') (h:gY i f w H (t++aI) c w' u):gY i f w (H.join F) (t++aI) c w' (u.join F):=by
 have G:F.le w:=B.le.right j;have C:H.Dis F:=j.mem;have D:f.Dis F:=(B.dis.right j).symm;have A:F.le w':=Au C D G I.keep;refine⟨?_,?_,?_,?_⟩
 ·intro b o p hb;simp only[Hp.bH]at hb;cases hh:u b with
  | none=>rw[hh]at hb;exact A b o p hb
  | some z=>rw[hh]at hb;exact h.le b o p (by rw[hh];exact hb)
 ·exact h.dis.join ((I.from2.dis G C D).symm)
 ·intro b x q;simp only[Hp.bH]at q;cases hh:u b with
  | none=>rw[hh]at q;exact .inr ⟨x,.inl (Hp.bC j q),λ_=>rfl⟩
  | some z=>
   rw[hh]at q;exact(h.aB b x (by rw[hh];exact q)).imp id λ⟨y,K,J⟩=>⟨y,K.imp Hp.aW id,J⟩
 exact h.perm.join ((B.perm.right j).own l)
def gY.comp{H F:Hp}{s:T.S}{j f:Hp}{u:Trace}{g:Hp}(c:H.Comp F)(q:H.gh≠[])(l:dY T i (H.join F) s j t w)(h:gY i j w H u f w' g):g.Comp F:=
 ⟨h.aB.dis (l.le.right c) c.mem (l.dis.right c).symm,.inr (FZ c q)⟩
def On.frame{K:Trace->Frame->List Frame->Hp->Prop}{H F:Hp}{s:T.S}{f:Hp}(u:H.Comp F)(B:H.gh≠[])(G:dY T i (H.join F) s f t w)
  (h:On T i K fr cs H s f t w):On T i (λU fr cs I=>∃c,I=c.join F/\c.Comp F/\K U fr cs c) fr cs (H.join F) s f t w:=by
 obtain⟨eC,l,w',c,R,g,es,J,C,D,L,M,N,O,q,Q⟩:=h;exact⟨eC,l,w',c.join F,R,g,es,J,C.frame,D.frame u (λop A=>.inl (Oz op A)) G C,λj=>by rw[L,Hp.bZ,FZ u B,qAf],M,N,O,q,c,rfl,D.comp u B G,Q⟩
def On.mono{K l:Trace->Frame->List Frame->Hp->Prop}{H:Hp}{s:T.S}{j:Hp}(J:∀t fr cs H,K t fr cs H->l t fr cs H)
  (h:On T i K fr cs H s j t w):On T i l fr cs H s j t w:=
 let⟨eC,f,w',q,L,c,es,u,A,B,C,D,F,G,g,I⟩:=h
 ⟨eC,f,w',q,L,c,es,u,A,B,C,D,F,G,g,J _ _ _ _ I⟩
variable(T)
def OX(R:Frame->List Frame->Hp->Prop)(fr:Frame)(cs:List Frame)(H:Hp):Prop:=
 T.can true H.gh/\∃(v z:Value) (g:List Nat) (f c:Hp),(∀main w n,w.heap[T.ch]? = some (.chan 0 #[] false n n false)->stepG p main (cV fr cs) w=.comm (cV fr cs) #[scase T.ch v z] true .send w #[]) /\
  H=f.join c/\f.Comp c/\c.gh=[]/\T.puts H.gh g v c/\T.act g/\R (fr.finish undef) cs (f.tagged g)
def OY(R:Frame->List Frame->Hp->Prop)(fr:Frame)(cs:List Frame)(H:Hp):Prop:=
 T.can false H.gh/\∃(z:Value) (c:Bool),(∀main w n h,w.heap[T.ch]? = some (.chan 0 #[] h n n false)->stepG p main (cV fr cs) w=.comm (cV fr cs) #[rcase T.ch z] true (.recv c) w #[]) /\
  (∀g v f,f.gh=[]->H.Dis f->T.gets H.gh g v f->T.act g/\R (fr.finish (recvd c v true)) cs ((H.join f).tagged g))/\T.act (T.shut H.gh)/\R (fr.finish (recvd c z false)) cs (H.tagged (T.shut H.gh))
variable{T}
def OX.mono{R c:Frame->List Frame->Hp->Prop}(G:∀fr cs H,R fr cs H->c fr cs H){H:Hp}(h:OX T R fr cs H):OX T c fr cs H:=by obtain⟨l,v,z,j,f,g,q,u,A,B,C,D,F⟩:=h;exact⟨l,v,z,j,f,g,q,u,A,B,C,D,G _ _ _ F⟩
def OY.mono{R j:Frame->List Frame->Hp->Prop}(u:∀fr cs H,R fr cs H->j fr cs H){H:Hp}(h:OY T R fr cs H):OY T j fr cs H:=by obtain⟨A,z,f,B,q,C,D⟩:=h;exact⟨A,z,f,B,λl v g a b c=>⟨(q l v g a b c).1,u _ _ _ (q l v g a b c).2⟩,C,u _ _ _ D⟩
def OX.frame{R:Frame->List Frame->Hp->Prop}{H F:Hp}(q:H.Comp F)(G:H.gh≠[])(h:OX T R fr cs H):OX T (λfr cs D=>∃g,D=g.join F/\g.Comp F/\R fr cs g) fr cs (H.join F):=by
 have l:=FZ q G;have C:(H.join F).gh=H.gh:=by rw[Hp.bZ,l,qAf]
 obtain⟨c,v,z,f,j,u,I,rfl,B,J,K,L,M⟩:=h;have c1:j.Comp F:=q.of_join_left;have c2:u.Comp F:=Hp.Comp.dH B q;refine⟨by rw[C];exact c,v,z,f,j.join F,u,I,?_,Hp.Comp.gU B c2.symm,J,by rw[C];exact K,L,j.tagged f,Hp.hQ l f,c1.tagged l f,M⟩;rw[Hp.dR,Hp.dR,Hp.nD c2]
def OY.frame{R:Frame->List Frame->Hp->Prop}{H F:Hp}(l:H.Comp F)(I:H.gh≠[])(h:OY T R fr cs H):OY T (λfr cs G=>∃u,G=u.join F/\u.Comp F/\R fr cs u) fr cs (H.join F):=by
 have f:=FZ l I;have q:(H.join F).gh=H.gh:=by rw[Hp.bZ,f,qAf]
 obtain⟨j,z,g,J,K,L,M⟩:=h;refine⟨by rw[q];exact j,z,g,J,?_,by rw[q];exact L,H.tagged (T.shut H.gh),by rw[q];exact Hp.hQ f _,l.tagged f _,M⟩;rw[q];intro B v A a b c;obtain⟨k1,k2⟩:=K B v A a b.left c;have D:F.Comp A:=⟨b.right l,.inl f⟩;refine⟨k1,(H.join A).tagged B,?_,(Hp.Comp.gU l D.symm).tagged f B,k2⟩;rw[<-Hp.hQ f,Hp.dR,Hp.dR,Hp.nD D]
variable(T)
noncomputable def Vy.envW(i:Nat):Env where
 sh:=λR fr cs H=>H.gh≠[] /\
  ((∃d,H.gh=lv d/\((∃eC c es,(∀e∈es,Event.mute e=true)/\(∀main w,stepG p main (cV fr cs) w=.go (cV eC c) w es)/\R eC c (H.tagged (lv (deafBehind d es))))\/(d=0/\∃g:Goroutine,g.status=.finished/\∀w,stepG p false (cV fr cs) w=.go g w))) \/
     (T.act H.gh/\∀s l t w,dY T i H s l t w ->
    On T i (λ_ eC c f=>(R eC c f/\T.act f.gh)\/(T.hsh f.gh/\R eC c (H.tagged f.gh))) fr cs H s l t w\/T6 T i fr cs s w) \/
     (T.hsh H.gh/\∀s l t w,dY T i (.aR H.gh) s l t w ->
    On T i (λU eC c f=>yF f/\((T.hsh f.gh/\R eC c (H.tagged f.gh))\/(f.gh=T.left/\R eC c (H.tagged (lv (Deaf U i)))))) fr cs (.aR H.gh) s l t w\/T6 T i fr cs s w) \/
     (T.act H.gh/\OY T R fr cs H))
 shMono:=by
  rintro R W A fr cs H ⟨B,h⟩;refine⟨B,h.imp ?_ (qDU ?_ (qDU ?_ λh=>⟨h.1,h.2.mono A⟩))⟩
  ·rintro⟨d,e,h⟩;exact⟨d,e,h.imp (λ⟨eC,c,es,L,M,N⟩=>⟨eC,c,es,L,M,A _ _ _ N⟩) id⟩
  ·rintro⟨q,h⟩;exact⟨q,λs l t w q=>(h s l t w q).imp (On.mono λt fr cs H h=>h.imp (λh=>⟨A _ _ _ h.1,h.2⟩) λh=>⟨h.1,A _ _ _ h.2⟩) id⟩
  rintro⟨q,h⟩;exact⟨q,λs l t w q=>(h s l t w q).imp (On.mono λt fr cs H h=>⟨h.1,h.2.imp (λh=>⟨h.1,A _ _ _ h.2⟩) λh=>⟨h.1,A _ _ _ h.2⟩⟩) id⟩
 shFrame:=by
  rintro R fr cs H F G ⟨B,h⟩;have J:=FZ G B;have C:(H.join F).gh=H.gh:=by rw[Hp.bZ,J,qAf]
  have u:∀g eC c,R eC c (H.tagged g)->∃f,(H.join F).tagged g=f.join F/\f.Comp F/\R eC c f:=λg eC c A=>⟨_,Hp.hQ J g,G.tagged J g,A⟩;refine⟨by rw[C];exact B,h.imp ?_ (qDU ?_ (qDU ?_ λh=>⟨by rw[C];exact h.1,h.2.frame G B⟩))⟩
  ·rintro⟨d,e,h⟩;exact⟨d,C.trans e,h.imp (λ⟨eC,c,es,L,M,N⟩=>⟨eC,c,es,L,M,u _ _ _ N⟩) id⟩
  ·rintro⟨D,h⟩;refine⟨by rw[C];exact D,λs l t w q=>?_⟩;refine(h s l t w (q.left G B)).imp (λS=>(S.frame G B q).mono ?_) id;rintro U eC c V ⟨f,rfl,O,K⟩;have Q:(f.join F).gh=f.gh:=by rw[Hp.bZ,J,qAf]
   rw[Q];exact K.imp (λh=>⟨⟨f,rfl,O,h.1⟩,h.2⟩) λh=>⟨h.1,u _ _ _ h.2⟩
  rintro⟨I,h⟩;refine⟨by rw[C];exact I,λs l t w q=>?_⟩;rw[C]at q ⊢;exact(h s l t w q).imp (On.mono λU eC c f K=>⟨K.1,K.2.imp (λh=>⟨h.1,u _ _ _ h.2⟩) λh=>⟨h.1,u _ _ _ h.2⟩⟩) id
noncomputable def Vy.prgW(i:Nat):aX:={ toProgram:=p,still:=T.stl,stillNil:=λh=>absurd h (by simp[T.stlNil]),toEnv:=T.envW i }
def YW(i k:Nat)(fr c:Frame)(es:Array Event):Trace:=
 (ZI i fr es).push { g:=i,fn:=fr.fn,pos:=fr.place,act:=.go k } |>.push { g:=k,fn:=c.fn,pos:=fr.place,act:=.start }
theorem ZuG{k:Nat}{f:Frame}:∀op∈YW 0 k fr f es,op.g=0\/op.act.touch? = none:=by
 intro op c;rcases Array.mem_push.1 c with c | rfl
 ·rcases Array.mem_push.1 c with c | rfl
  ·exact .inl (Oz op c)
  exact .inl rfl
 exact .inr rfl
def T2(K:Frame->List Frame->Hp->Prop)(fr:Frame)(cs:List Frame)(H:Hp)(s:T.S)(A:Hp)(t:Trace)(w:World):Prop:=
 ∃u q c w' h l g f es,stepG p true (cV fr cs) w=.spawn (cV u q) (cV c []) w' es/\gJ T 0 s A t w H (YW 0 (T.next s) fr c es) g f w' /\
  gY 0 A w H (t++YW 0 (T.next s) fr c es) f w' h/\gY (T.next s) A w H (t++YW 0 (T.next s) fr c es) f w' l/\h.Dis l /\
  (∀j,T.tag g j=if j=0 then h.gh else if j=T.next s then l.gh else T.tag s j)/\T.next g=T.next s+1/\T.more g<T.more s/\(T.cls g=T.cls s/\∀j,j<T.next s->T.Blk s j->T.Blk g j) /\
  K u q h/\T.act h.gh/\T.act l.gh/\Reach (T.prgW (T.next s)) Vg c [] l
theorem T2.frame{K:Frame->List Frame->Hp->Prop}{H F:Hp}{s:T.S}{j:Hp}(f:H.Comp F)(G:H.gh≠[])(l:dY T 0 (H.join F) s j t w)
  (h:T2 T K fr cs H s j t w):T2 T (λfr cs L=>∃c,L=c.join F/\c.Comp F/\K fr cs c) fr cs (H.join F) s j t w:=by
 obtain⟨eC,u,A,w',c,M,s',q,es,Q,I,J,g,R,U,V,W,X,B,C⟩:=h;have Y:F.le w:=l.le.right f;have N:H.Dis F:=f.mem;have O:j.Dis F:=(l.dis.right f).symm;have e:(c.join F).gh=c.gh:=by rw[Hp.bZ,FZ f G,qAf]
 refine⟨eC,u,A,w',c.join F,M,s',q,es,Q,I.frame,J.frame f ZuG l I,⟨g.le,g.dis,?_,g.perm⟩,R.join (g.aB.dis Y N O).symm,?_,V,W,X,⟨c,rfl,J.comp f G l,B⟩,?_⟩
 ·exact λb x hx=>(g.aB b x hx).imp id λ⟨y,hy,Z⟩=>⟨y,hy.imp Hp.aW id,Z⟩
 ·rw[e];exact U
 rw[e];exact C
noncomputable def Vy.envM:Env where
 sh:=λR fr cs H=>H.gh≠[]/\∀s g t w,dY T 0 H s g t w ->
  On T 0 (λY eC c j=>R eC c j/\T.act j.gh) fr cs H s g t w\/T6 T 0 fr cs s w\/T2 T R fr cs H s g t w\/OX T R fr cs H
 shMono:=by rintro R R' J fr cs H ⟨f,h⟩;refine⟨f,λs g t w l=>(h s g t w l).imp (On.mono λt fr cs H h=>⟨J _ _ _ h.1,h.2⟩) (qDU id (qDU ?_ (OX.mono J)))⟩;rintro⟨eC,c,A,w',j,K,X,u,es,B,G,L,M,N,O,Q,S,U,C,D⟩;exact⟨eC,c,A,w',j,K,X,u,es,B,G,L,M,N,O,Q,S,U,J _ _ _ C,D⟩
 shFrame:=by rintro R fr cs H F q ⟨f,h⟩;refine⟨by rw[Hp.bZ];simp[f],λs g t w l=>?_⟩;refine(h s g t w (l.left q f)).imp (λV=>(V.frame q f l).mono ?_) (qDU id (qDU (λW=>W.frame T q f l) (OX.frame q f)));rintro Y eC c Z ⟨j,rfl,I,B,G⟩;exact⟨⟨j,rfl,I,B⟩,by rw[Hp.bZ,FZ q f,qAf];exact G⟩
noncomputable def Vy.prgM:aX:={ toProgram:=p,still:=λ_=>false,stillNil:=λ_ _=>rfl,toEnv:=T.envM }
def P8(i:Nat)(c:Hp)(op:MemOp):Prop:=op.g=i/\((∃loc h,op.act=.access ⟨loc,h,false⟩/\∀b,loc.gL=some b->c b=none)\/(∃f,op.act=.mark (.extern f))\/op.act=.mark .noRoom)
def KS(i:Nat)(op:MemOp):Prop:=op.g=i/\(op.act=.mark .disable\/op.act=.mark .enable)
structure Vy.Sound:Prop where
 own:∀{s Hs t},T.Inv s Hs t->∀b x,Hs b=some x->x.2=true
 AN:∀{s Hs t i u},T.Inv s Hs t->i<T.next s->T.act (T.tag s i)->(∀op∈u,P8 i Hs op)->T.Inv s Hs (t++u)
 mute:∀{s Hs t i u},T.Inv s Hs t->i<T.next s->T.tag s i=T.left->(∀op∈u,KS i op)->T.Inv s Hs (t++u)
 live:∀{s Hs t} (D:Nat->Option Bool),T.Inv s Hs t->(∀j,j<T.next s->T.tag s j≠T.left->T.Blk s j\/(T.cls s=false/\∃d,D j=some d/\T.can d (T.tag s j)))->(∀j k,D j=some true->D k=some false->False)->False
 chan:∀{s Hs t},T.Inv s Hs t->∃n,Hs T.ch=some (.chan 0 #[] (T.cls s) n n false,true)
 hears:∀{s Hs t j d},T.Inv s Hs t->j<T.next s->T.can d (T.tag s j)->Deaf t j=0
 E8:∀{s Hs t j},T.Inv s Hs t->j<T.next s->T.can false (T.tag s j)->j≠0
 E0:∀{s Hs t j},T.Inv s Hs t->j<T.next s->T.can true (T.tag s j)->T.cls s=false
 pC:∀{d g},T.can d g->T.act g
 E7:∀{s Hs t j},T.Inv s Hs t->j<T.next s->T.can true (T.tag s j)->j=0
 meet:∀{s Hs t b n g' v Hm},T.Inv s Hs t->0<T.next s->b<T.next s->b≠0->T.cls s=false->Hs T.ch=some (.chan 0 #[] false n n false,true)->T.can true (T.tag s 0)->T.can false (T.tag s b)->T.puts (T.tag s 0) g' v Hm ->
  ∃s' gb,T.gets (T.tag s b) gb v Hm/\(∀j,T.tag s' j=if j=0 then g' else if j=b then gb else T.tag s j)/\T.next s'=T.next s/\T.more s'<T.more s/\T.cls s'=false/\(∀j,T.Blk s j->T.Blk s' j) /\
   ∀u:Trace,(∀op∈u,op.g=0\/op.g=b)->(∀op∈u,op.act=.send T.ch n\/op.act=.recv T.ch n 0\/op.act=.sendDone T.ch n\/op.act=.recvDone T.ch n)->T.Inv s' (Hs.ins T.ch (.chan 0 #[] false (n+1) (n+1) false)) (t++u)
 E5:∀{s Hs t b},T.Inv s Hs t->b<T.next s->T.cls s=true->T.can false (T.tag s b) ->
  ∃s',(∀j,T.tag s' j=if j=b then T.shut (T.tag s b)else T.tag s j)/\T.next s'=T.next s/\T.more s'<=T.more s/\T.cls s'=true/\(∀j,T.Blk s j->T.Blk s' j)/\∀u:Trace,(∀op∈u,op.g=b/\op.act=.recvClosed T.ch)->T.Inv s' Hs (t++u)
 actLeft:¬ T.act T.left
 hshLeft:¬ T.hsh T.left
 uC:∀d,¬ T.act (lv d)
 nG:∀g,T.act g->¬ T.hsh g
 BD:∀d,¬ T.hsh (lv d)
 EY:∀d,T.stl (lv d)=true
 AJ:∀g,T.hsh g->T.stl g=true
end
