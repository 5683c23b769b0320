import Derived.Test.YthmnpenamnoniaaGreatDoorP01
import Derived.Test.YthmnpenamnoniaaGreatDoorP04
import Derived.Test.YthmnpenamnoniaaGreatDoorP06
import Derived.Conc.Beside
import Derived.Conc.MuSpec
set_option linter.all false
namespace Go.LL
section
variable{t e E sT T t2:TypeId}{sz b len dQ i bP r cap lo:Nat}{o:Op}{s:Sem Value}{xs:Array Operand}{ts:Array TypeId}{vs cs:List Value}{zv w:Value}{k k2:IntKind}{n m:Int}{a:Addr}
structure TI(p:Program)(t:TypeId)(sz:Nat)(z:Value)(bP:Nat):Prop where
 ex:∃i,p.info? t=some i/\i.size=sz/\i.zero=some z/\i.bytes=bP
def ZU(p:Program)(t:TypeId):Option (Nat×Option Value×Nat):=(p.info? t).map λi=>(i.size,i.zero,i.bytes)
def Zpo{p:Program}{z:Value}(h:ZU p t=some (sz,some z,b)):TI p t sz z b:=by unfold ZU at h;rw[qAk]at h;obtain⟨i,f,c⟩:=h;simp only[qAL]at c;exact⟨i,f,c.1,c.2.1,c.2.2⟩
section
variable{P:aY}{d:Option Nat}{next:aL->Hp->Prop}{σ:aL}{H:Hp}{x y z:Operand}{v:Value}{ty:TypeId}
def YX(f:(o.operands.all λx=>(σ.get x).isSome)=true)(e:execOp (λx=>(σ.get x).getD undef) (aN o ty)=(do let v <-s;pure (.value v)))(h:bD P s (λv _ c=>next (σ.set d v) c) false H):(aR.raw o ty).m P d next σ H:=by refine⟨f,.inl ?_⟩;rw[e,Ze];exact Vv (λv g H h=>(.inr h:_\/_)) h
def PN(f:(o.operands.all λx=>(σ.get x).isSome)=true){s:Sem Unit}(e:execOp (λx=>(σ.get x).getD undef) (aN o ty)=(do s;pure .skip))(h:bD P s (λ_ _ c=>next (σ.set d undef) c) false H):(aR.raw o ty).m P d next σ H:=by refine⟨f,.inl ?_⟩;rw[e,Ze];exact Vv (λv g H h=>(.inr h:_\/_)) h
def Ztp{x:Operand}{v:Value}(e:σ.get x=some v)(g:σ.dM xs.toList=some vs):((Op.call { callee:=.value x,args:=xs,argTypes:=ts }).operands.all λx=>(σ.get x).isSome)=true:=by
 have f:=(Oq g).2;rw[qAd];intro y c;simp only[Op.operands,Call.operands]at c;simp only[qAp]at f;simp only[qBk,qAn,qAC,qAb,iF,qAu]at c f;rcases c with rfl | c
 ·rw[e];rfl
 exact f y c
def Yp{A:Value}{c:Value->Hp->Prop}(e:σ.get x=some A)(B:σ.dM xs.toList=some vs)(h:bR P A vs.toArray H c)(q:∀v u,c v u->next (σ.set d v) u) :
  (aR.raw (.call { callee:=.value x,args:=xs,argTypes:=ts }) ty).m P d next σ H:=by
 refine⟨Ztp e B,.inl ?_⟩;have F:xs.map (λx=>(σ.get x).getD undef)=vs.toArray:=by obtain⟨xs⟩:=xs;simp only[qBq];rw[(Oq B).1]
 have C:execOp (λx=>(σ.get x).getD undef) (aN (.call { callee:=.value x,args:=xs,argTypes:=ts }) ty)=sN A vs.toArray:=by simp only[execOp,aN,resolve,F,sN,e,Option.getD_some]
 rw[C];refine Vv ?_ h;rintro n g u (D | j)
 ·exact .inl D
 refine .inr ?_;cases n with
 | value v=>exact q _ _ j
 | skip=>exact q _ _ j
 | enter f args=>exact Za.mono j q
 | round l f tmps aA G=>exact U6.mono j q
 | _=>exact j.elim
def OY{cs:Array Value}(q:P.toProgram.underlying t=some (.array len e))(C:TI P.toProgram e dQ zv b)(c:Yi P.toProgram e=some none)(f:σ.get x=some (.agg cs))(g:σ.get y=some (.int k (i:Int)))(D:i<len)(l:cs[i * dQ]? = some v)
  (h:next (σ.set d v) H):(aR.raw (.index t x y) ty).m P d next σ H:=by
 obtain⟨B,u,A,F,G⟩:=C.ex;refine YX (by simp[Op.operands,f,g]) (s:=Instr.index t (.agg cs) (.int k (i:Int))) (by simp[execOp,aN,f,g]) ?_;have j:(0:Int)<=(i:Int)/\(i:Int)<(len:Nat):=⟨O,O⟩;simp only[Instr.index,Ze,asIntOf,Zi,ZA q,BY j,Yf u,part,sJ c,A,qBd,l,dO,qAf];exact h
def eY(H:Hp)(E:TypeId)(dQ:Nat)(v:Value)(cs:List Value)(n:Nat)(b:Option Nat):Prop:=
 cs.length=n * dQ/\((v=.slice none 0 0/\n=0/\b=none)\/∃r cap rest,b=some r/\v=.slice (some ⟨r,0,none⟩) n cap/\H r=some (.cells (cs++rest).toArray E (0,0),true)/\(cs++rest).length=cap * dQ/\n<=cap)
def eY.nil(H:Hp)(E:TypeId)(dQ:Nat):eY H E dQ (.slice none 0 0) [] 0 none:=⟨by simp,.inl ⟨rfl,rfl,rfl⟩⟩
structure pV(H H':Hp)(b b':Option Nat):Prop where
 gh:H'.gh=H.gh
 keep:∀c y,H c=some y->b≠some c->H' c=some y
 new:b'=b\/∃r,b'=some r/\H r=none
theorem eY.sub{H f:Hp}{v:Value}{n:Nat}{b:Option Nat}(h:eY H E dQ v cs n b)(A:∀c y,b=some c->H c=some y->f c=some y):eY f E dQ v cs n b:=by obtain⟨j,h⟩:=h;refine⟨j,h.imp id ?_⟩;rintro⟨r,cap,rest,g,l,q,u⟩;exact⟨r,cap,rest,g,l,A r _ g q,u⟩
def eY.cells{H:Hp}{v:Value}{n:Nat}{b:Option Nat}(h:eY H E dQ v cs n b):∃A c,v=.slice A n c/\(n≠0->∃a,A=some a/\aC H a cs):=by
 obtain⟨u,⟨g,f,l⟩ | ⟨r,cap,rest,g,f,l,B,C⟩⟩:=h
 ·subst f;exact⟨none,0,g,λh=>absurd rfl h⟩
 refine⟨some ⟨r,0,none⟩,cap,f,λ_=>⟨_,rfl,rfl,_,_,l,λj q=>?_⟩⟩;simp only[Obj.fT,qAP,qAt];rw[qAB q]
def Cd(n:Nat):∀(r c:Nat),Builtin.growBy n r c<=max c (n+(n+768) / 4)
 | 0,c=>by unfold Builtin.growBy;omega
 | r+1,c=>by
  unfold Builtin.growBy;split
  ·omega
  have:=Cd n r (c+(c+768) / 4);omega
def Lo{need old:Nat}(h:old<need):Builtin.nextslicecap need old<=2 * need+200:=by
 unfold Builtin.nextslicecap;split
 ·omega
 split
 ·omega
 have:=Cd need 4 old;omega
def B4{P:PQ}{H:Hp}(c:P.still H.gh=false)(q:aC H a cs){Q:Array Value->Bool->Hp->Prop}{g:Bool}(B:Q cs.toArray g H){n:Nat}(A:cs.length=n):bD P (loadCells a n) Q g H:=by obtain⟨f,o,p,h,l⟩:=q;subst A;unfold loadCells;exact yB c h f Q g cs 0 #[] (λj u=>by rw[qAP];exact l j u) (by simpa using B)
def ZoY(zero:Array Value)(n:Nat):(Builtin.zeroCells zero n).size=n * zero.size:=by simp[Builtin.zeroCells]
def ZzA{n m:Nat}{s:Value}{xs:List Value}{b:Option Nat}(hu:P.toProgram.underlying sT=some (.slice E))(ti:TI P.toProgram E dQ zv bP)(hz:zv.cells.size=dQ)(he:0<dQ)
  (ho:eY H E dQ s cs n b) (hw:(m=0/\∃A c,w=.slice A 0 c)\/∃a c,w=.slice (some a) m c/\aC H a xs) (G:xs.length=m * dQ) (Y:(xs.all Value.bS)=true) (hb1:n+m<=1000000000) (Z:bP<=1000) (u:P.still H.gh=false)
  {K:Value->Hp->Prop} (h:∀v' C b',eY C E dQ v' (cs++xs) (n+m) b'->pV H C b b'->K v' C):bD P (Builtin.append_ #[sT,sT] T #[s,w]) (λv _ C=>K v C) false H:=by
 obtain⟨Xf,V,i2,i3,i4⟩:=ti.ex;obtain⟨D,J⟩:=ho;have S:∀Q g,Q m g H->bD P (Builtin.lenOf w) Q g H:=by intro Q g B;rcases hw with⟨rfl,A,c,rfl⟩ | ⟨a,c,rfl,_⟩<;>simpa[Builtin.lenOf,Zi]using B
 have l:∀(Q:Array Value->Bool->Hp->Prop) g,Q xs.toArray g H->bD P (Builtin.firstCells dQ m w) Q g H:=by
  intro Q g B;rcases hw with⟨rfl,A,c,rfl⟩ | ⟨a,c,rfl,F⟩
  ·have:xs=[]:=qAo (by simpa using G);subst this;cases A<;>simpa[Builtin.firstCells,Zi,loadCells,loadCellsFrom]using B
  simp only[Builtin.firstCells];exact B4 u F B G
 have main:∀(f:Option Addr) (cap:Nat),s=.slice f n cap->(n+m<=cap->bD P (Builtin.firstCells dQ m w) (λnew g H1=>match f with | some a=>bD P (storeCells (a.add (n * dQ)) new.toList) (λ_ _ C=>K (.slice f (n+m) cap) C) g H1 | none=>K (.slice f (n+m) cap) H1) false H) ->
   (cap<n+m->∀(Q:Array Value->Bool->Hp->Prop) g,Q cs.toArray g H->bD P (Builtin.firstCells dQ n s) Q g H)->(cap<n+m->b=none\/∃r,b=some r)->bD P (Builtin.append_ #[sT,sT] T #[s,w]) (λv _ C=>K v C) false H:=by
  intro f cap hs M U hb
  have W:((TypeDesc.slice E) matches .int _)=false:=rfl
  simp only[Builtin.append_,qAt,qBr,qAW,Ze,ZA hu,hs,Yf V,i2,Zi,dO,qAf]
  refine S _ _ ?_
  simp only[qCt,qAH]
  by_cases q:n+m<=cap
  ·rw[BY q];have:=M q;cases f<;>simpa only[Ze,Zi]using this
  ·rw[bY q];simp only[Ze,OH V,i4];rw[bY (by rintro⟨h,_⟩;simp[IntKind.max,IntKind.bits,IntKind.signed]at h;omega)];simp only[Ze,Zi,OH V,i4];have R:¬ Builtin.nextslicecap (n+m) cap * bP > 2 ^ 48:=by have Y:=Lo (need:=n+m) (old:=cap) O;have h2:Builtin.nextslicecap (n+m) cap * bP<=(2 * (n+m)+200) * 1000:=qBN Y Z;omega
   rw[bY R];simp only[Ze,Zi,choose];rw[bD];simp only[Question.forced,dO,qAf];refine⟨u,λt=>?_⟩;have I:n+m<=(Question.appendCap (n+m) cap E).cut t:=by simp only[Question.cut];omega
   generalize(Question.appendCap (n+m) cap E).cut t=X at I;rw[bD];have N:∀(Q:Unit->Bool->Hp->Prop),Q () false H->bD P (askRoom (X * bP)) Q false H:=by
    intro Q B;unfold askRoom;split
    ·exact⟨.inr ⟨rfl,u⟩,B⟩
    exact B
   rw[OH V,i4];refine N _ ?_;refine hs ▸ U O _ _ ?_;refine l _ _ ?_;simp only[Uu V i3,newRow,Ze,newObj,Zi];refine⟨u,λr hr=>?_⟩;have L:pV H (H.ins r (.cells (cs.toArray++xs.toArray++Builtin.zeroCells zv.cells (X-(n+m))) E)) b (some r):=by refine⟨rfl,λc y F _=>?_,.inr ⟨r,rfl,hr⟩⟩;rw[Hp.aE _ _ (by rintro rfl;rw[hr]at F;simp at F)];exact F
   refine h _ _ _ ⟨by rw[IN,D,G,qCO],.inr ⟨r,X,(Builtin.zeroCells zv.cells (X-(n+m))).toList,rfl,rfl,?_,?_,I⟩⟩ L
   ·rw[Hp.aD];simp
   simp only[IN,D,G,qCn,ZoY,hz];rw[<-qCO,<-qCO];congr 1;omega
 rcases J with⟨rfl,rfl,rfl⟩ | ⟨r,cap,rest,rfl,rfl,h3,h4,h5⟩
 ·have hcs:cs=[]:=qAo (by simpa using D);subst hcs;refine main none 0 rfl (λq=>?_) (λ_ Q g B=>by simpa[Builtin.firstCells,Zi]using B) (λ_=>.inl rfl);have hm:m=0:=O;subst hm;have IL:xs=[]:=qAo (by simpa using G);subst IL;refine l _ _ ?_;exact h _ _ none ⟨by simp,.inl ⟨rfl,rfl,rfl⟩⟩ ⟨rfl,λc y F _=>F,.inl rfl⟩
 refine main (some ⟨r,0,none⟩) cap rfl (λq=>?_) (λ_ Q g B=>?_) (λ_=>.inr ⟨r,rfl⟩)
 ·refine l _ _ ?_;show bD _ _ _ _ _;have ha:(⟨r,0,none⟩:Addr).add (n * dQ)=⟨r,n * dQ,none⟩:=by rw[vP rfl,qAP]
  rw[ha];have aAX:n * dQ+m * dQ<=cap * dQ:=by rw[<-qCO];exact qBz _ q
  rw[IN,D]at h4;refine vM _ _ xs (n * dQ) 0 (cs++rest) H u h3 Y (by rw[IN,D,G];omega) ?_;refine h _ _ (some r) ⟨by rw[IN,D,G,qCO],.inr ⟨r,cap,rest.drop (m * dQ),rfl,rfl,?_,?_,q⟩⟩ ⟨rfl,λc y F k9=>?_,.inl rfl⟩
  ·rw[Hp.aD];have e1:(cs++rest).take (n * dQ+0)=cs:=by rw[qBB,qBE O,qAz O]
   have e2:(cs++rest).drop (n * dQ+0+xs.length)=rest.drop (m * dQ):=by rw[qBB,G,qDf,qBb O,qAn,D];congr 1;omega
   rw[e1,e2]
  ·simp only[IN,D,G,qCD];omega
  rw[Hp.aE _ _ (by rintro rfl;exact k9 rfl)];exact F
 simp only[Builtin.firstCells];refine B4 (cs:=cs) u ⟨rfl,_,_,h3,λj hj=>?_⟩ B D;simp only[Obj.fT,qAP,qAt];rw[qAB hj]
def CA{f:TypeId}{n m:Nat}{s:Value}{xs:List Value}{b:Option Nat}(B:P.toProgram.underlying sT=some (.slice E))(C:P.toProgram.underlying f=some (.slice E))(J:TI P.toProgram E dQ zv bP)(R:zv.cells.size=dQ)(M:0<dQ)
  (F:σ.get x=some s) (G:σ.get y=some w)
  (O:eY H E dQ s cs n b) (Q:(m=0/\∃A c,w=.slice A 0 c)\/∃a c,w=.slice (some a) m c/\aC H a xs) (N:xs.length=m * dQ) (L:(xs.all Value.bS)=true) (l:n+m<=1000000000) (q:bP<=1000) (u:P.still H.gh=false)
  (h:∀K g D,eY g E dQ K (cs++xs) (n+m) D->pV H g b D->next (σ.set d K) g):(aR.raw (.call { callee:=.builtin .append,args:=#[x,y],argTypes:=#[sT,f] }) T).m P d next σ H:=by
 refine YX (s:=Builtin.append_ #[sT,f] T #[s,w]) (by simp[Op.operands,Call.operands,F,G]) (by simp[execOp,aN,resolve,invoke,builtin,F,G]) ?_;have:Builtin.append_ #[sT,f] T #[s,w]=Builtin.append_ #[sT,f] T #[s,w]:=rfl;have I:=ZzA (T:=T) B J R M O Q N L l q u h;obtain⟨S,U,_⟩:=J.ex;by_cases e:f=sT
 ·rw[e];exact I
 have key:bD P.toPQ (Builtin.append_ #[sT,f] T #[s,w]) (λv _ g=>next (σ.set d v) g) false H↔bD P.toPQ (Builtin.append_ #[sT,sT] T #[s,w]) (λv _ g=>next (σ.set d v) g) false H:=by simp only[Builtin.append_,qAt,qBr,qAW,Ze,ZA B];cases s<;>simp only[Ze,ZA C,ZA B,Zi]
 exact key.2 I
def Yd{H:Hp}{o:Obj}(g:H r=none):H.Sub (H.ins r o):=⟨λc y f=>by rw[Hp.aE _ _ (by rintro rfl;rw[g]at f;simp at f)];exact f,rfl⟩
def ZV(q:TI P.toProgram t sz zv bP)(c:P.still H.gh=false)(h:∀r,H r=none->next (σ.set d (.pointer (some ⟨r,0,none⟩))) (H.ins r (.cells zv.cells t))):(aR.raw (.alloc t) ty).m P d next σ H:=by obtain⟨l,g,u,j,A⟩:=q.ex;refine YX (by simp[Op.operands]) (s:=Instr.alloc t true (.tuple #[])) (by simp[execOp,aN]) ?_;simp only[Instr.alloc,Ze,Uu g j,newVar,newRow,newObj,Zi];exact⟨c,λr f=>h r f⟩
def YG(e:σ.get x=some v)(c:P.still H.gh=false)(h:∀r,H r=none->next (σ.set d (.pointer (some ⟨r,0,none⟩))) (H.ins r (.cells v.cells t))):(aR.raw (.box t x) ty).m P d next σ H:=by refine YX (by simp[Op.operands,e]) (s:=Instr.box t v) (by simp[execOp,aN,e]) ?_;simp only[Instr.box,Ze,newVar,newRow,newObj,Zi];exact⟨c,λr f=>h r f⟩
def AQ{off:Nat}(C:TI P.toProgram t sz zv bP)(g:σ.get x=some (.pointer (some ⟨b,off,none⟩)))(j:σ.get y=some v)(hb:H b=some (.cells cs.toArray E (0,0),true))(l:v.cells.size=sz)(D:off+sz<=cs.length)(q:(v.cells.toList.all Value.bS)=true)
  (f:P.still H.gh=false) (h:next (σ.set d undef) (H.ins b (.cells (ZZ cs off v.cells.toList).toArray E))):(aR.raw (.store t x y) ty).m P d next σ H:=by
 obtain⟨B,u,A,F,G⟩:=C.ex;refine PN (by simp[Op.operands,g,j]) (s:=Instr.storeAt t (.pointer (some ⟨b,off,none⟩)) v) (by simp[execOp,aN,g,j]) ?_;have c:¬ v.cells.size≠sz:=by simp[l]
 simp only[Instr.storeAt,Instr.sureAddr,storeVar,Ze,Zi,Yf u,A,bY c];refine vM _ _ v.cells.toList off 0 cs H f hb q (by simp[l];omega) ?_;unfold ZZ at h;exact h
def Yo{g:Value}(u:TI P.toProgram t 1 zv bP)(j:σ.get x=some (.pointer (some ⟨b,0,none⟩)))(l:σ.get y=some v)(hb:H b=some (.cells #[g] E (0,0),true))(c:v.cells=#[v])(q:Value.bS v=true)
  (f:P.still H.gh=false) (h:next (σ.set d undef) (H.ins b (.cells #[v] E))):(aR.raw (.store t x y) ty).m P d next σ H:=by
 refine AQ u j l (cs:=[g]) hb (by rw[c];rfl) (by simp) (by rw[c];simpa using q) f ?_;rw[c];exact h
def Yz(q:TI P.toProgram t sz zv bP)(f:σ.get x=some (.pointer (some ⟨b,0,none⟩)))(g:σ.get y=some v)(hb:H b=some (.cells cs.toArray E (0,0),true))(j:v.cells.size=sz)(u:cs.length=sz)(l:(v.cells.toList.all Value.bS)=true)
  (c:P.still H.gh=false) (h:next (σ.set d undef) (H.ins b (.cells v.cells E))):(aR.raw (.store t x y) ty).m P d next σ H:=by
 refine AQ q f g hb j O l c ?_;have:ZZ cs 0 v.cells.toList=v.cells.toList:=by unfold ZZ;rw[List.take_zero,qAn,qBb (by simp;omega),qAw]
 rw[this];exact h
def Oj(g:P.toProgram.underlying t=some (.slice E))(q:TI P.toProgram E sz zv bP)(c:P.still H.gh=false)(h:∀r,H r=none->next (σ.set d (.slice (some ⟨r,0,none⟩) 0 0)) (H.ins r (.cells #[] E))):(aR.raw (.buildSlice t 0 #[]) ty).m P d next σ H:=by
 obtain⟨l,j,u,A,B⟩:=q.ex;refine YX (by simp[Op.operands]) (s:=Instr.buildSlice t 0 #[]) (by simp[execOp,aN]) ?_;simp only[Instr.buildSlice,Ze,ZA g,Yf j,Nat.zero_mul,Zi];simp only[Instr.fill,newRow,newObj,Ze,Zi];simp;refine⟨c,λr f=>?_⟩;have e:(Array.map (λ_=>(default:Value)) (Array.range 0))=#[]:=by simp
 rw[e];exact h r f
def wR{H:Hp}:eY (H.ins r (.cells #[] E)) E dQ (.slice (some ⟨r,0,none⟩) 0 0) [] 0 (some r):=⟨by simp,.inr ⟨r,0,[],rfl,rfl,Hp.aD _ _ _,by simp,AT _⟩⟩
def Y8{f:Fn}{c cs:Array Operand}{g c1:List Value}(D:σ.dM c.toList=some g)(C:σ.dM cs.toList=some c1)(h:next (σ.set d (.func f g.toArray c1.toArray)) H) :
  (aR.raw (.makeFunc f c cs) ty).m P d next σ H:=by
 obtain⟨j,l⟩:=Oq D;obtain⟨q,u⟩:=Oq C;have A:c.map (λx=>(σ.get x).getD undef)=g.toArray:=by obtain⟨c⟩:=c;simp only[qBq];rw[j]
 have B:cs.map (λx=>(σ.get x).getD undef)=c1.toArray:=by obtain⟨cs⟩:=cs;simp only[qBq];rw[q]
 refine YX ?_ (s:=Instr.makeFunc f g.toArray c1.toArray) (by simp[execOp,aN,A,B]) h;simp only[Op.operands,Array.all_append,oR];exact⟨by rw[<-Array.all_toList];exact l,by rw[<-Array.all_toList];exact u⟩
def Ui{P:PQ}{v:Value}(h:∀(Q:Value->Bool->Hp->Prop) (g:Bool) (H:Hp),Q v g H->bD P s Q g H):hU P (do let v <-s;pure (.value v)) v:=by intro Q g H c;rw[Ze];exact h _ _ _ c
def CD(c:σ.get x=some (.int k m))(f:σ.get y=some (.int k n))(h:next (σ.set d (.int k (max m n))) H):(aR.bT (.call { callee:=.builtin .max,args:=#[x,y],argTypes:=ts }) ty).m P d next σ H:=by
 have e:(if n > m then n else m)=max m n:=O;refine Y6 (by simp[Op.operands,Call.operands,c,f]) ?_ h;have:execOp (λx=>(σ.get x).getD undef) (aN (.call { callee:=.builtin .max,args:=#[x,y],argTypes:=ts }) ty)=(do let v <-Builtin.max_ ts ty #[.int k m,.int k n];pure (.value v)):=by simp[execOp,aN,resolve,invoke,builtin,c,f]
 rw[this];refine Ui λQ g H j=>?_;simp only[Builtin.max_,List.foldlM,Builtin.max2,Ze,Zi,e];exact j
def PM(c:σ.get x=some (.int k m))(f:σ.get y=some (.int k n))(h:next (σ.set d (.int k (min m n))) H):(aR.bT (.call { callee:=.builtin .min,args:=#[x,y],argTypes:=ts }) ty).m P d next σ H:=by
 have e:(if n<m then n else m)=min m n:=O;refine Y6 (by simp[Op.operands,Call.operands,c,f]) ?_ h;have:execOp (λx=>(σ.get x).getD undef) (aN (.call { callee:=.builtin .min,args:=#[x,y],argTypes:=ts }) ty)=(do let v <-Builtin.min_ ts ty #[.int k m,.int k n];pure (.value v)):=by simp[execOp,aN,resolve,invoke,builtin,c,f]
 rw[this];refine Ui λQ g H j=>?_;simp only[Builtin.min_,List.foldlM,Builtin.min2,Ze,Zi,e];exact j
def E0(c:σ.get x=some (.int k m))(f:σ.get y=some (.int k n))(j:n≠0)(h:next (σ.set d (.int k (m.tmod n))) H):(aR.bT (.binOp .rem t x y t2) ty).m P d next σ H:=by
 refine Y6 (by simp[Op.operands,c,f]) ?_ h;have:execOp (λx=>(σ.get x).getD undef) (aN (.binOp .rem t x y t2) ty)=pure (.value (.int k (m.tmod n))):=by simp[execOp,aN,c,f,eqGuard,binOp,Op.intDiv,j]
 rw[this];exact λQ g H l=>l
def Uy(c:σ.get x=some (.int .i64 m))(f:σ.get y=some (.int .i64 n))(j:n≠0)(q:kQ (m.tdiv n))(h:next (σ.set d (.int .i64 (m.tdiv n))) H):(aR.bT (.binOp .quo t x y t2) ty).m P d next σ H:=by
 refine Y6 (by simp[Op.operands,c,f]) ?_ h;have:execOp (λx=>(σ.get x).getD undef) (aN (.binOp .quo t x y t2) ty)=pure (.value (.int .i64 (m.tdiv n))):=by simp[execOp,aN,c,f,eqGuard,binOp,Op.intDiv,j,Ud q]
 rw[this];exact λQ g H l=>l
def CE{o:BinOp}(f:σ.get x=some (.int k m))(j:σ.get y=some (.int k n))(l:o=.and\/o=.or\/o=.xor\/o=.andNot)(u:(match o with | .xor=>.int k (k.wrap (BitVec.ofInt k.bits m ^^^ BitVec.ofInt k.bits n).toNat) | o=>ZI o k m n)=v)(h:next (σ.set d v) H) :
  (aR.bT (.binOp o t x y t2) ty).m P d next σ H:=by
 refine Y6 (by simp[Op.operands,f,j]) ?_ h;subst u;rcases l with rfl | rfl | rfl | rfl<;>(simp only[execOp,aN,f,j,Option.getD_some];exact λQ g H q=>by simpa[Ze,Zi,eqGuard,binOp,Op.intBits,ZI]using q)
def vC{o:BinOp}(f:σ.get x=some (.int k m))(j:σ.get y=some (.int k2 n))(l:o=.shr\/o=.shl)(A:0<=n)(u:ZI o k m n=v)(h:next (σ.set d v) H) :
  (aR.bT (.binOp o t x y t2) ty).m P d next σ H:=by
 refine Y6 (by simp[Op.operands,f,j]) ?_ h;subst u;have:¬ n<0:=O;rcases l with rfl | rfl<;>(simp only[execOp,aN,f,j,Option.getD_some];exact λQ g H q=>by simpa[Ze,Zi,eqGuard,binOp,Op.shift,ZI,this]using q)
def Uz{s:TypeId}{k0:IntKind}(j:P.toProgram.underlying s=some (.int k0))(l:P.toProgram.underlying t=some (.int k))(c:σ.get x=some (.int k0 m))(h:next (σ.set d (.int k (k.wrap m))) H):(aR.bT (.convert s t x) ty).m P d next σ H:=by
 refine Y6 (by simp[Op.operands,c]) ?_ h;have:execOp (λx=>(σ.get x).getD undef) (aN (.convert s t x) ty)=(do let v <-convert s t (.int k0 m);pure (.value v)):=by simp[execOp,aN,c]
 rw[this];refine Ui λQ g H f=>?_;simp only[convert,Ze,ZA j,ZA l,Conv.intToInt,Zi];exact f
def Uj(e:σ.get x=some (.pointer (some a)))(h:next (σ.set d (.pointer (some a))) H):(aR.bT (.nilCheck x) ty).m P d next σ H:=by
 refine Y6 (by simp[Op.operands,e]) ?_ h;have:execOp (λx=>(σ.get x).getD undef) (aN (.nilCheck x) ty)=pure (.value (.pointer (some a))):=by simp[execOp,aN,e]
 rw[this];exact λQ g H c=>c
def Oh{a:Option Addr}(u:P.toProgram.underlying t=some (.slice E))(D:TI P.toProgram E sz zv bP)(c:σ.get x=some (.slice a len cap))(f:σ.get y=some (.int k (lo:Int)))(l:lo<=len)
  (h:next (σ.set d (.slice (if cap=lo then a else a.map (·.add (lo * sz))) (len-lo) (cap-lo))) H):(aR.bT (.slice t x (some y) none none) ty).m P d next σ H:=by
 obtain⟨C,A,B,F,G⟩:=D.ex;refine Y6 (by simp[Op.operands,c,f]) ?_ h;have:execOp (λx=>(σ.get x).getD undef) (aN (.slice t x (some y) none none) ty)=(do let v <-Instr.sliceAt t (.slice a len cap) (some (.int k (lo:Int))) none none;pure (.value v)):=by simp[execOp,aN,c,f]
 rw[this];refine Ui λQ g H q=>?_;have j:(0:Int)<=(lo:Int)/\(lo:Int)<=(len:Nat):=⟨O,O⟩;simp only[Instr.sliceAt,Ze,ZA u,Instr.slice,Instr.sliceBounds,Instr.sliceBound,asIntOf,Zi,BY j,Yf A,B,qBd];exact q
def Zty{hi:Nat}{a:Option Addr}{u B:Option Operand}(A:P.toProgram.underlying t=some (.slice E))(K:TI P.toProgram E sz zv bP)(j:σ.get x=some (.slice a len cap))(l:(u=none/\lo=0)\/∃y,u=some y/\σ.get y=some (.int k (lo:Int)))(c:∃z,B=some z/\σ.get z=some (.int k2 (hi:Int)))(I:lo<=hi)(G:hi<=cap)
  (h:next (σ.set d (.slice (if cap=lo then a else a.map (·.add (lo * sz))) (hi-lo) (cap-lo))) H):(aR.bT (.slice t x u B none) ty).m P d next σ H:=by
 obtain⟨J,C,D,L,M⟩:=K.ex;obtain⟨z,rfl,c⟩:=c;have F:(0:Int)<=(lo:Int)/\(lo:Int)<=(hi:Nat):=⟨O,O⟩;have f:(0:Int)<=(hi:Int)/\(hi:Int)<=(cap:Nat):=⟨O,O⟩;rcases l with⟨rfl,rfl⟩ | ⟨y,rfl,l⟩
 ·refine Y6 (by simp[Op.operands,j,c]) ?_ h;have:execOp (λx=>(σ.get x).getD undef) (aN (.slice t x none (some z) none) ty)=(do let v <-Instr.sliceAt t (.slice a len cap) none (some (.int k2 (hi:Int))) none;pure (.value v)):=by simp[execOp,aN,j,c]
  rw[this];refine Ui λQ g H q=>?_;simp only[Instr.sliceAt,Ze,ZA A,Instr.slice,Instr.sliceBounds,Instr.sliceBound,asIntOf,Zi,BY f,Yf C,D,qBd];exact q
 refine Y6 (by simp[Op.operands,j,l,c]) ?_ h;have:execOp (λx=>(σ.get x).getD undef) (aN (.slice t x (some y) (some z) none) ty)=(do let v <-Instr.sliceAt t (.slice a len cap) (some (.int k (lo:Int))) (some (.int k2 (hi:Int))) none;pure (.value v)):=by simp[execOp,aN,j,l,c]
 rw[this];refine Ui λQ g H q=>?_;simp only[Instr.sliceAt,Ze,ZA A,Instr.slice,Instr.sliceBounds,Instr.sliceBound,asIntOf,Zi,BY F,BY f,Yf C,D,qBd];exact q
def Kt(j:P.toProgram.underlying t=some (.array len e))(A:TI P.toProgram e dQ zv bP)(c:σ.get x=some (.pointer (some a)))(f:σ.get y=some (.int k (i:Int)))(B:i<len)
  (h:next (σ.set d (.pointer (some (a.add (i * dQ))))) H):(aR.raw (.indexAddr t x y) ty).m P d next σ H:=by
 obtain⟨u,l,q,C,D⟩:=A.ex;refine YX (by simp[Op.operands,c,f]) (s:=Instr.indexAt t (.pointer (some a)) (.int k (i:Int))) (by simp[execOp,aN,c,f]) ?_;have g:(0:Int)<=(i:Int)/\(i:Int)<(len:Nat):=⟨O,O⟩;simp only[Instr.indexAt,Ze,asIntOf,Zi,ZA j,Instr.sureAddr,BY g,Yf l,q,qBd];exact h
end
end
abbrev Nd:=Frame×List Frame×Hp
inductive Rk:Type
 | nA
 | node (f:Nd->Rk)
def Rk.lt:Rk->Rk->Prop
 | _,.nA=>False
 | y,.node f=>∃x,y=f x
def Rk.KC:∀x:Rk,Acc Rk.lt x
 | .nA=>⟨_,λ_ h=>h.elim⟩
 | .node f=>⟨_,λ_ ⟨x,h⟩=>h ▸ Rk.KC (f x)⟩
def Rk.ofNat:Nat->Rk
 | 0=>.nA
 | n+1=>.node λ_=>.ofNat n
def Rk.ofNat_lt(n:Nat):Rk.lt (.ofNat n) (.ofNat (n+1)):=⟨(default,[],.nil),rfl⟩
def eX(Φ:(Nd->Prop)->Nd->Prop):Rk->Nd->Prop
 | .nA,_=>False
 | .node f,x=>Φ (λy=>eX Φ (f y) y) x
def ZqL{Φ:(Nd->Prop)->Nd->Prop}(g:∀{R c:Nd->Prop},(∀x,R x->c x)->∀x,Φ R x->Φ c x){x:Nd}(h:∀R:Nd->Prop,(∀x,Φ R x->R x)->R x):∃k,eX Φ k x:=by
 refine h (λx=>∃k,eX Φ k x) (λx j=>?_)
 classical
 refine⟨.node λy=>if h:∃k,eX Φ k y then h.choose else .nA,?_⟩
 refine g (λy f=>?_) x j
 simp only[dif_pos f]
 exact f.choose_spec
def eX.step{Φ:(Nd->Prop)->Nd->Prop}(j:∀{R c:Nd->Prop},(∀x,R x->c x)->∀x,Φ R x->Φ c x){k:Rk}{x:Nd}(h:eX Φ k x):Φ (λy=>∃g,Rk.lt g k/\eX Φ g y) x:=by
 cases k with
 | nA=>exact h.elim
 | node f=>exact j (λy l=>⟨f y,⟨y,rfl⟩,l⟩) x h
def yM(n:Nat)(ρ' ρ:Nat->Rk):Prop:=∃j,j<n/\Rk.lt (ρ' j) (ρ j)/\∀k,k≠j->ρ' k=ρ k
theorem NY:∀(n:Nat) (ρ:Nat->Rk),Acc (yM n) ρ
 | 0,ρ=>⟨_,λ_ ⟨_,h,_⟩=>absurd h (Nat.not_lt_zero _)⟩
 | n+1,ρ=>by
  have key:∀x,Acc Rk.lt x->∀ρ,Acc (yM n) ρ->ρ n=x->Acc (yM (n+1)) ρ:=by
   intro x u;induction u with
   | intro x _ g=>
    intro ρ A;induction A with
    | intro ρ _ l=>
     intro e;refine⟨_,λρ' ⟨j,B,f,q⟩=>?_⟩;by_cases c:j=n
     ·subst c;exact g (ρ' j) (e ▸ f) ρ' (NY j ρ') rfl
     exact l ρ' ⟨j,O,f,q⟩ ((q n (qAm c)).trans e)
  exact key _ (Rk.KC _) ρ (NY n ρ) rfl
abbrev Ms:=Nat×Nat×(Nat->Rk)×Nat
def nK(n:Nat):Ms->Ms->Prop:=Prod.Lex (·<·) (Prod.Lex (·<·) (Prod.Lex (yM n) (·<·)))
def Zt9(n:Nat):WellFounded (nK n):=
 ⟨λ⟨_,_,_,_⟩=>qCT (Nat.lt_wfRel.wf.apply _) (λx=>by obtain⟨_,_,_⟩:=x;exact qCT (Nat.lt_wfRel.wf.apply _) (λx=>by obtain⟨_,_⟩:=x;exact qCT (NY n _) (λ_=>Nat.lt_wfRel.wf.apply _) _) _) _⟩
variable{w w':World}{i:Nat}{fr:Frame}{es:Array Event}{t aG:Trace}{cs:List Frame}
open Go.Conc (Knows Deaf touchAt QuitsD)
abbrev dY(fr:Frame)(cs:List Frame):Goroutine:={ frame:=fr,callers:=cs,status:=.blocked,dying:=none }
def _root_.Go.Loc.dY:Loc->Option Nat
 | .cell a=>some a.block
 | .obj r=>some r
 | _=>none
def Hp.Dis(H F:Hp):Prop:=∀b x y,H b=some x->F b=some y->x=y/\x.2=false
def Hp.Dis.symm{H F:Hp}(h:H.Dis F):F.Dis H:=λb x y c f=>by obtain⟨e,p⟩:=h b y x f c;exact⟨e.symm,by rw[<-e];exact p⟩
def Hp.Dis.left{H F J:Hp}(h:(H.join F).Dis J):H.Dis J:=λb x y c f=>h b x y (Hp.aJ c) f
def Hp.Dis.right{H F J:Hp}(g:H.Comp F)(h:(H.join F).Dis J):F.Dis J:=λb x y c f=>h b x y (Hp.aP g c) f
def Hp.Dis.join{H F J:Hp}(g:H.Dis J)(h:F.Dis J):(H.join F).Dis J:=λb x y c f=>by
 simp only[Hp.aQ]at c;cases hh:H b with
 | none=>rw[hh]at c;exact h b x y c f
 | some z=>rw[hh]at c;exact g b x y (by rw[hh];exact c) f
structure nZ(w w':World):Prop where
 os:Go.ConcM.OsLater w.os w'.os
 tape:w'.tape=w.tape
 out:w'.output=w.output
def nZ.refl(w:World):nZ w w:=⟨.refl _,rfl,rfl⟩
def nZ.trans{a b c:World}(h:nZ a b)(k:nZ b c):nZ a c:=⟨h.os.trans k.os,k.tape.trans h.tape,k.out.trans h.out⟩
def eP(H c:Hp)(w:World)(K:Hp):Prop:=∀b x,K b=some x->w.heap.size<=b\/∃y,(H b=some y\/c b=some y)/\(y.2=false->x=y)
def eP.dis{H g K F:Hp}(h:eP H g w K)(q:F.le w)(j:H.Dis F)(l:g.Dis F):K.Dis F:=by
 intro b x y A f;rcases h b x A with h | ⟨z,c,u⟩
 ·exact absurd (q.lt f) O
 have:z=y/\z.2=false:=c.elim (λc=>j b z y c f) (λc=>l b z y c f);rw[u this.2];exact this
def dG(t:Trace)(i:Nat)(H:Hp):Prop:=∀b o p,H b=some (o,p)->∀q a,touchAt t q=some a->a.loc.dY=some b->(p=true\/a.write=true)->Knows t i q
structure UG(p:Program) where
 S:Type
 tag:S->Nat->List Nat
 next:S->Nat
 more:S->Nat
 Inv:S->Hp->Trace->Prop
 Blk:S->Nat->Prop
 act:List Nat->Prop
 hsh:List Nat->Prop
 left:List Nat
 stl:List Nat->Bool
 stlNil:stl []=true
def lv(d:Nat):List Nat:=[0,d]
def Hp.tagged(H:Hp)(g:List Nat):Hp:=⟨H.mem,g⟩
theorem Hp.cD(H:Hp)(g:List Nat)(b:Nat):H.tagged g b=H b:=rfl
def Hp.jU{H F:Hp}(c:F.gh=[])(g:List Nat):(H.join F).tagged g=(H.tagged g).join F:=Hp.ext' (λb=>rfl) (by simp[Hp.bI,Hp.tagged,c])
def Hp.Comp.tagged{H F:Hp}(h:H.Comp F)(j:F.gh=[])(g:List Nat):(H.tagged g).Comp F:=⟨λb x y c f=>h b x y c f,.inr j⟩
section
variable{p:Program}(T:UG p)
structure dT(i:Nat)(s:T.S)(Hs:Hp)(t:Trace)(w:World)(H:Hp)(aG:Trace)(s':T.S)(fK:Hp)(w':World):Prop where
 size:w.heap.size<=w'.heap.size
 keep:∀b,b<w.heap.size->(∀o,H b≠some (o,true))->(∀o,Hs b≠some (o,true))->w'.heap[b]? = w.heap[b]?
 leS:fK.le w'
 from2:eP H Hs w fK
 out:nZ w w'
 evs:∀op∈aG,∀x,op.act.touch? = some x->∀b,x.loc.dY=some b->(∃o p,(H b=some (o,p)\/Hs b=some (o,p))/\(x.write=true->p=true))\/w.heap.size<=b
 norace:∀said q a,touchAt t q=some a->∀op∈aG,∀b,op.act.touch? = some b->a.conflicts said b->Knows t i q
 low:∀op∈aG,op.act.low w'.heap.size
 inv:T.Inv s' fK (t++aG)
structure VI(i:Nat)(Hs:Hp)(w:World)(H:Hp)(t':Trace)(fK:Hp)(w':World)(H':Hp):Prop where
 le:H'.le w'
 dis:H'.Dis fK
 aB:eP H Hs w H'
 perm:dG t' i H'
abbrev Z3(i:Nat)(fr:Frame)(es:Array Event):Trace:=MemOp.ofEvents i fr.fn fr.place es
structure bZ(i:Nat)(H:Hp)(s:T.S)(Hs:Hp)(t:Trace)(w:World):Prop where
 inv:T.Inv s Hs t
 tag:T.tag s i=H.gh
 lt:i<T.next s
 le:H.le w
 leS:Hs.le w
 dis:H.Dis Hs
 perm:dG t i H
 low:∀op∈t,op.act.low w.heap.size
 above:∀j,T.next s<=j->Deaf t j=0
def OF(i:Nat)(K:Trace->Frame->List Frame->Hp->Prop)(fr:Frame)(cs:List Frame)(H:Hp)(s:T.S)(q:Hp)(t:Trace)(w:World):Prop:=
 ∃g f w' l h c es,stepG p (i == 0) (bO fr cs) w=.go (bO g f) w' es/\dT T i s q t w H (Z3 i fr es) h c w'/\VI i q w H (t++Z3 i fr es) c w' l /\
  (∀j,T.tag h j=if j=i then l.gh else T.tag s j)/\T.next h=T.next s/\T.more h<=T.more s/\(mayWake p (bO fr cs)=true\/∀j,T.Blk s j->T.Blk h j)/\K (t++Z3 i fr es) g f l
def EI(i:Nat)(fr:Frame)(cs:List Frame)(s:T.S)(w:World):Prop:=
 stepG p (i == 0) (bO fr cs) w=.go (dY fr cs) w #[]/\T.Blk s i
def m7(H:Hp):Prop:=∀b,H b=none
def Hp.aN(g:List Nat):Hp:=⟨λ_=>none,g⟩
def UV:Frame->List Frame->Hp->Prop:=λ_ _ _=>False
theorem OU:∀op∈Z3 i fr es,op.g=i:=λop c=>by obtain⟨e,_,rfl⟩:=Go.Conc.mem_ofEvents c;rfl
def dG.own{u:Trace}{H:Hp}(h:dG t i H)(D:∀op∈u,op.g=i\/op.act.touch? = none):dG (t++u) i H:=by
 intro b o p hb q a C B F;obtain⟨x,A,c⟩:=Go.Conc.touch_of C;rcases Go.Conc.getElem?_append_cases A with⟨hi,j⟩ | ⟨_,l⟩
 ·exact(h b o p hb q a (by rw[Go.Conc.touchAt_of j];exact c) B F).app u
 have:=Go.Conc.knows_own A;rcases D x l with f | f
 ·rwa [f]at this
 rw[f]at c;simp at c
def dG.join{H F:Hp}(h:dG t i H)(c:dG t i F):dG t i (H.join F):=by
 intro b o p hb;simp only[Hp.aQ]at hb;cases hh:H b with
 | none=>rw[hh]at hb;exact c b o p hb
 | some z=>rw[hh]at hb;exact h b o p (by rw[hh];exact hb)
def dG.left{H F:Hp}(h:dG t i (H.join F)):dG t i H:=λb o p hb=>h b o p (Hp.aJ hb)
def dG.right{H F:Hp}(c:H.Comp F)(h:dG t i (H.join F)):dG t i F:=λb o p hb=>h b o p (Hp.aP c hb)
def x8{H F:Hp}(f:H.Comp F)(c:H.gh≠[]):F.gh=[]:=f.gh.resolve_left c
variable{T}
def bZ.left{H F:Hp}{s:T.S}{c:Hp}(g:H.Comp F)(f:H.gh≠[])(h:bZ T i (H.join F) s c t w):bZ T i H s c t w:=
 ⟨h.inv,by rw[h.tag,Hp.bI,x8 g f,qAw],h.lt,h.le.left,h.leS,h.dis.left,h.perm.left,h.low,h.above⟩
theorem dT.frame{H F:Hp}{s u:T.S}{q c:Hp}(h:dT T i s q t w H aG u c w'):dT T i s q t w (H.join F) aG u c w':=
 ⟨h.size,λb hb f g=>h.keep b hb (λo B=>f o (Hp.aJ B)) g,h.leS,λb x l=>(h.from2 b x l).imp id λ⟨y,C,A⟩=>⟨y,C.imp Hp.aJ id,A⟩,h.out,
  λop j x l b hb=>(h.evs op j x l b hb).imp (λ⟨o,p,f,g⟩=>⟨o,p,f.imp Hp.aJ id,g⟩) id,h.norace,h.low,h.inv⟩
def FO{H F Hs:Hp}(h:H.Dis F)(j:Hs.Dis F)(g:F.le w)(f:∀b,b<w.heap.size->(∀o,H b≠some (o,true))->(∀o,Hs b≠some (o,true))->w'.heap[b]? = w.heap[b]?):F.le w':=by intro b o p hb;rw[f b (g.lt hb) (λl c=>by simpa using(h b _ _ c hb).2) (λl c=>by simpa using(j b _ _ c hb).2)];exact g b o p hb
theorem VI.frame{H F:Hp}{s L:T.S}{f c:Hp}{u:Hp}(j:H.Comp F)(l:∀op∈aG,op.g=i\/op.act.touch? = none)(B:bZ T i (H.join F) s f t w)
  (I:dT T i s f t w H aG L c w') (h:VI i f w H (t++aG) c w' u):VI i f w (H.join F) (t++aG) c w' (u.join F):=by
 have G:F.le w:=B.le.right j;have C:H.Dis F:=j.mem;have D:f.Dis F:=(B.dis.right j).symm;have A:F.le w':=FO C D G I.keep;refine⟨?_,?_,?_,?_⟩
 ·intro b o p hb;simp only[Hp.aQ]at hb;cases hh:u b with
  | none=>rw[hh]at hb;exact A b o p hb
  | some z=>rw[hh]at hb;exact h.le b o p (by rw[hh];exact hb)
 ·exact h.dis.join ((I.from2.dis G C D).symm)
 ·intro b x q;simp only[Hp.aQ]at q;cases hh:u b with
  | none=>rw[hh]at q;exact .inr ⟨x,.inl (Hp.aP j q),λ_=>rfl⟩
  | some z=>
   rw[hh]at q;exact(h.aB b x (by rw[hh];exact q)).imp id λ⟨y,K,J⟩=>⟨y,K.imp Hp.aJ id,J⟩
 exact h.perm.join ((B.perm.right j).own l)
def VI.comp{H F:Hp}{s:T.S}{j f:Hp}{u:Trace}{g:Hp}(c:H.Comp F)(q:H.gh≠[])(l:bZ T i (H.join F) s j t w)(h:VI i j w H u f w' g):g.Comp F:=
 ⟨h.aB.dis (l.le.right c) c.mem (l.dis.right c).symm,.inr (x8 c q)⟩
def OF.frame{K:Trace->Frame->List Frame->Hp->Prop}{H F:Hp}{s:T.S}{f:Hp}(u:H.Comp F)(B:H.gh≠[])(G:bZ T i (H.join F) s f t w)
  (h:OF T i K fr cs H s f t w):OF T i (λU fr cs I=>∃c,I=c.join F/\c.Comp F/\K U fr cs c) fr cs (H.join F) s f t w:=by
 obtain⟨q,l,w',c,R,g,es,J,C,D,L,M,N,O,Q⟩:=h;exact⟨q,l,w',c.join F,R,g,es,J,C.frame,D.frame u (λop A=>.inl (OU op A)) G C,λj=>by rw[L,Hp.bI,x8 u B,qAw],M,N,O,c,rfl,D.comp u B G,Q⟩
def OF.mono{K l:Trace->Frame->List Frame->Hp->Prop}{H:Hp}{s:T.S}{j:Hp}(J:∀t fr cs H,K t fr cs H->l t fr cs H)
  (h:OF T i K fr cs H s j t w):OF T i l fr cs H s j t w:=
 let⟨g,f,w',q,L,c,es,u,A,B,C,D,F,G,I⟩:=h
 ⟨g,f,w',q,L,c,es,u,A,B,C,D,F,G,J _ _ _ _ I⟩
variable(T)
noncomputable def UG.envW(i:Nat):Env where
 sh:=λR fr cs H=>H.gh≠[] /\
  ((∃d,H.gh=lv d/\((∃f c es,(∀e∈es,Event.mute e=true)/\(∀main w,stepG p main (bO fr cs) w=.go (bO f c) w es)/\R f c (H.tagged (lv (deafBehind d es))))\/(d=0/\∃g:Goroutine,g.status=.finished/\∀w,stepG p false (bO fr cs) w=.go g w))) \/
     (T.act H.gh/\∀s q t w,bZ T i H s q t w ->
    OF T i (λ_ f c j=>(R f c j/\T.act j.gh)\/(T.hsh j.gh/\R f c (H.tagged j.gh))) fr cs H s q t w\/EI T i fr cs s w) \/
     (T.hsh H.gh/\∀s q t w,bZ T i (.aN H.gh) s q t w ->
    OF T i (λV f c j=>m7 j/\((T.hsh j.gh/\R f c (H.tagged j.gh))\/(j.gh=T.left/\R f c (H.tagged (lv (Deaf V i)))))) fr cs (.aN H.gh) s q t w\/EI T i fr cs s w))
 shMono:=by
  rintro R X B fr cs H ⟨C,h⟩;refine⟨C,h.imp ?_ (Or.imp ?_ ?_)⟩
  ·rintro⟨d,e,h⟩;exact⟨d,e,h.imp (λ⟨f,c,es,M,N,O⟩=>⟨f,c,es,M,N,B _ _ _ O⟩) id⟩
  ·rintro⟨u,h⟩;exact⟨u,λs q t w u=>(h s q t w u).imp (OF.mono λt fr cs H h=>h.imp (λh=>⟨B _ _ _ h.1,h.2⟩) λh=>⟨h.1,B _ _ _ h.2⟩) id⟩
  rintro⟨u,h⟩;exact⟨u,λs q t w u=>(h s q t w u).imp (OF.mono λt fr cs H h=>⟨h.1,h.2.imp (λh=>⟨h.1,B _ _ _ h.2⟩) λh=>⟨h.1,B _ _ _ h.2⟩⟩) id⟩
 shFrame:=by
  rintro R fr cs H F K ⟨C,h⟩;have J:=x8 K C;have G:(H.join F).gh=H.gh:=by rw[Hp.bI,J,qAw]
  have A:∀g f c,R f c (H.tagged g)->∃j,(H.join F).tagged g=j.join F/\j.Comp F/\R f c j:=λg f c B=>⟨_,Hp.jU J g,K.tagged J g,B⟩;refine⟨by rw[G];exact C,h.imp ?_ (Or.imp ?_ ?_)⟩
  ·rintro⟨d,e,h⟩;exact⟨d,G.trans e,h.imp (λ⟨f,c,es,M,N,O⟩=>⟨f,c,es,M,N,A _ _ _ O⟩) id⟩
  ·rintro⟨D,h⟩;refine⟨by rw[G];exact D,λs q t w u=>?_⟩;refine(h s q t w (u.left K C)).imp (λU=>(U.frame K C u).mono ?_) id;rintro V f c W ⟨j,rfl,Q,L⟩;have S:(j.join F).gh=j.gh:=by rw[Hp.bI,J,qAw]
   rw[S];exact L.imp (λh=>⟨⟨j,rfl,Q,h.1⟩,h.2⟩) λh=>⟨h.1,A _ _ _ h.2⟩
  rintro⟨I,h⟩;refine⟨by rw[G];exact I,λs q t w u=>?_⟩;rw[G]at u ⊢;exact(h s q t w u).imp (OF.mono λV f c j L=>⟨L.1,L.2.imp (λh=>⟨h.1,A _ _ _ h.2⟩) λh=>⟨h.1,A _ _ _ h.2⟩⟩) id
noncomputable def UG.prgW(i:Nat):aY:={ toProgram:=p,still:=T.stl,stillNil:=λh=>absurd h (by simp[T.stlNil]),toEnv:=T.envW i }
def Vd(i k:Nat)(fr c:Frame)(es:Array Event):Trace:=
 (Z3 i fr es).push { g:=i,fn:=fr.fn,pos:=fr.place,act:=.go k } |>.push { g:=k,fn:=c.fn,pos:=fr.place,act:=.start }
theorem Zvi{k:Nat}{f:Frame}:∀op∈Vd 0 k fr f es,op.g=0\/op.act.touch? = none:=by
 intro op c;rcases Array.mem_push.1 c with c | rfl
 ·rcases Array.mem_push.1 c with c | rfl
  ·exact .inl (OU op c)
  exact .inl rfl
 exact .inr rfl
def DN(K:Frame->List Frame->Hp->Prop)(fr:Frame)(cs:List Frame)(H:Hp)(s:T.S)(A:Hp)(t:Trace)(w:World):Prop:=
 ∃q l c w' g h u f es,stepG p true (bO fr cs) w=.spawn (bO q l) (bO c []) w' es/\dT T 0 s A t w H (Vd 0 (T.next s) fr c es) u f w' /\
  VI 0 A w H (t++Vd 0 (T.next s) fr c es) f w' g/\VI (T.next s) A w H (t++Vd 0 (T.next s) fr c es) f w' h/\g.Dis h /\
  (∀j,T.tag u j=if j=0 then g.gh else if j=T.next s then h.gh else T.tag s j)/\T.next u=T.next s+1/\T.more u<T.more s/\(∀j,j<T.next s->T.Blk s j->T.Blk u j) /\
  K q l g/\T.act g.gh/\T.act h.gh/\Reach (T.prgW (T.next s)) UV c [] h
theorem DN.frame{K:Frame->List Frame->Hp->Prop}{H F:Hp}{s:T.S}{j:Hp}(f:H.Comp F)(I:H.gh≠[])(l:bZ T 0 (H.join F) s j t w)
  (h:DN T K fr cs H s j t w):DN T (λfr cs M=>∃c,M=c.join F/\c.Comp F/\K fr cs c) fr cs (H.join F) s j t w:=by
 obtain⟨A,u,B,w',c,N,s',q,es,R,J,L,g,U,V,W,X,Y,C,D⟩:=h;have Z:F.le w:=l.le.right f;have O:H.Dis F:=f.mem;have Q:j.Dis F:=(l.dis.right f).symm;have e:(c.join F).gh=c.gh:=by rw[Hp.bI,x8 f I,qAw]
 refine⟨A,u,B,w',c.join F,N,s',q,es,R,J.frame,L.frame f Zvi l J,⟨g.le,g.dis,?_,g.perm⟩,U.join (g.aB.dis Z O Q).symm,?_,W,X,Y,⟨c,rfl,L.comp f I l,C⟩,?_⟩
 ·exact λb x hx=>(g.aB b x hx).imp id λ⟨y,hy,he⟩=>⟨y,hy.imp Hp.aJ id,he⟩
 ·rw[e];exact V
 rw[e];exact D
noncomputable def UG.envM:Env where
 sh:=λR fr cs H=>H.gh≠[]/\∀s g t w,bZ T 0 H s g t w ->
  OF T 0 (λZ f c l=>R f c l/\T.act l.gh) fr cs H s g t w\/EI T 0 fr cs s w\/DN T R fr cs H s g t w
 shMono:=by rintro R R' K fr cs H ⟨j,h⟩;refine⟨j,λs g t w q=>(h s g t w q).imp (OF.mono λt fr cs H h=>⟨K _ _ _ h.1,h.2⟩) (Or.imp id ?_)⟩;rintro⟨f,c,B,w',l,L,Y,A,es,C,I,M,N,O,Q,S,U,V,D,G⟩;exact⟨f,c,B,w',l,L,Y,A,es,C,I,M,N,O,Q,S,U,V,K _ _ _ D,G⟩
 shFrame:=by rintro R fr cs H F u ⟨j,h⟩;refine⟨by rw[Hp.bI];simp[j],λs g t w q=>?_⟩;refine(h s g t w (q.left u j)).imp (λW=>(W.frame u j q).mono ?_) (Or.imp id λX=>X.frame T u j q);rintro Z f c HF ⟨l,rfl,J,C,I⟩;exact⟨⟨l,rfl,J,C⟩,by rw[Hp.bI,x8 u j,qAw];exact I⟩
noncomputable def UG.prgM:aY:={ toProgram:=p,still:=λ_=>false,stillNil:=λ_ _=>rfl,toEnv:=T.envM }
def CH(i:Nat)(c:Hp)(op:MemOp):Prop:=op.g=i/\((∃loc h,op.act=.access ⟨loc,h,false⟩/\∀b,loc.dY=some b->c b=none)\/(∃f,op.act=.mark (.extern f))\/op.act=.mark .noRoom)
def wK(i:Nat)(op:MemOp):Prop:=op.g=i/\(op.act=.mark .disable\/op.act=.mark .enable)
structure UG.Sound:Prop where
 own:∀{s Hs t},T.Inv s Hs t->∀b x,Hs b=some x->x.2=true
 oK:∀{s Hs t i u},T.Inv s Hs t->i<T.next s->T.act (T.tag s i)->(∀op∈u,CH i Hs op)->T.Inv s Hs (t++u)
 mute:∀{s Hs t i u},T.Inv s Hs t->i<T.next s->T.tag s i=T.left->(∀op∈u,wK i op)->T.Inv s Hs (t++u)
 live:∀{s Hs t},T.Inv s Hs t->(∀j,j<T.next s->T.tag s j≠T.left->T.Blk s j)->False
 lY:¬ T.act T.left
 lT:¬ T.hsh T.left
 pH:∀d,¬ T.act (lv d)
 lF:∀g,T.act g->¬ T.hsh g
 oV:∀d,¬ T.hsh (lv d)
 rK:∀d,T.stl (lv d)=true
 oF:∀g,T.hsh g->T.stl g=true
end
