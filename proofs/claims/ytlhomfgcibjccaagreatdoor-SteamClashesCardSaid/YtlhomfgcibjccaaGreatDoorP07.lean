import Derived.Test.YtlhomfgcibjccaaGreatDoorP01
import Derived.Test.YtlhomfgcibjccaaGreatDoorP04
import Derived.Test.YtlhomfgcibjccaaGreatDoorP06
import Derived.Conc.Beside
import Derived.Conc.MuSpec
import Derived.Conc.CrowdComm
set_option linter.all false
namespace Go.LL
section
variable{t e E sT T t2:TypeId}{sz b len eH i gR r cap lo:Nat}{o:Op}{s:Sem Value}{xs:Array Operand}{ts:Array TypeId}{vs cs:List Value}{zv w:Value}{k k2:IntKind}{n m:Int}{a:Addr}
structure TI(p:Program)(t:TypeId)(sz:Nat)(z:Value)(gR:Nat):Prop where
 ex:∃i,p.info? t=some i/\i.size=sz/\i.zero=some z/\i.bytes=gR
def Ym(p:Program)(t:TypeId):Option (Nat×Option Value×Nat):=(p.info? t).map λi=>(i.size,i.zero,i.bytes)
theorem ZgV{p:Program}{z:Value}(h:Ym p t=some (sz,some z,b)):TI p t sz z b:=by unfold Ym at h;rw[qAm]at h;obtain⟨i,h1,h2⟩:=h;simp only[qAG]at h2;exact⟨i,h1,h2.1,h2.2.1,h2.2.2⟩
section
variable{P:bF}{d:Option Nat}{next:aN->Hp->Prop}{σ:aN}{H:Hp}{x y z:Operand}{v:Value}{ty:TypeId}
theorem YS(ha:(o.operands.all λx=>(σ.get x).isSome)=true)(e:execOp (λx=>(σ.get x).getD undef) (aP o ty)=(do let v <-s;pure (.value v)))(h:cD P s (λv _ H'=>next (σ.set d v) H') false H):(bC.raw o ty).m P d next σ H:=by refine⟨ha,.inl ?_⟩;rw[e,Zh];exact Vh (λv g H h=>(.inr h:_\/_)) h
theorem ZiE(ha:(o.operands.all λx=>(σ.get x).isSome)=true){s:Sem Unit}(e:execOp (λx=>(σ.get x).getD undef) (aP o ty)=(do s;pure .skip))(h:cD P s (λ_ _ H'=>next (σ.set d undef) H') false H):(bC.raw o ty).m P d next σ H:=by refine⟨ha,.inl ?_⟩;rw[e,Zh];exact Vh (λv g H h=>(.inr h:_\/_)) h
theorem Zs1{x:Operand}{v:Value}(e:σ.get x=some v)(ha:σ.gets xs.toList=some vs):((Op.call { callee:=.value x,args:=xs,argTypes:=ts }).operands.all λx=>(σ.get x).isSome)=true:=by
 have h2:=(Of ha).2;rw[qAe];intro y hy;simp only[Op.operands,Call.operands]at hy;simp only[qAg]at h2;simp only[qBn,qAx,qAB,qAb,DO,qAt]at hy h2;rcases hy with rfl | hy
 ·rw[e];rfl
 exact h2 y hy
theorem ZN{fv:Value}{Post:Value->Hp->Prop}(e:σ.get x=some fv)(ha:σ.gets xs.toList=some vs)(h:ZX P fv vs.toArray H Post)(hn:∀v H',Post v H'->next (σ.set d v) H') :
  (bC.raw (.call { callee:=.value x,args:=xs,argTypes:=ts }) ty).m P d next σ H:=by
 refine⟨Zs1 e ha,.inl ?_⟩;have hm:xs.map (λx=>(σ.get x).getD undef)=vs.toArray:=by obtain⟨xs⟩:=xs;simp only[qBl];rw[(Of ha).1]
 have he:execOp (λx=>(σ.get x).getD undef) (aP (.call { callee:=.value x,args:=xs,argTypes:=ts }) ty)=OS fv vs.toArray:=by simp only[execOp,aP,resolve,hm,OS,e,Option.getD_some]
 rw[he];refine Vh ?_ h;rintro n g H' (hg | hh)
 ·exact .inl hg
 refine .inr ?_;cases n with
 | value v=>exact hn _ _ hh
 | skip=>exact hn _ _ hh
 | enter f args=>exact Zc.mono hh hn
 | round l f tmps aB bd=>exact UY.mono hh hn
 | _=>exact hh.elim
theorem MP{cs:Array Value}(hu:P.toProgram.underlying t=some (.array len e))(ti:TI P.toProgram e eH zv b)(pO:Ye P.toProgram e=some none)(e1:σ.get x=some (.agg cs))(e2:σ.get y=some (.int k (i:Int)))(hi:i<len)(he:cs[i * eH]? = some v)
  (h:next (σ.set d v) H):(bC.raw (.index t x y) ty).m P d next σ H:=by
 obtain⟨p9,i1,i2,i3,i4⟩:=ti.ex;refine YS (by simp[Op.operands,e1,e2]) (s:=Instr.index t (.agg cs) (.int k (i:Int))) (by simp[execOp,aP,e1,e2]) ?_;have hc:(0:Int)<=(i:Int)/\(i:Int)<(len:Nat):=⟨O,O⟩;simp only[Instr.index,Zh,asIntOf,Zj,Zy hu,iO hc,Z6 i1,part,OT pO,i2,qAA,he,iN,qAk];exact h
def jH(H:Hp)(E:TypeId)(eH:Nat)(v:Value)(cs:List Value)(n:Nat)(b:Option Nat):Prop:=
 cs.length=n * eH/\((v=.slice none 0 0/\n=0/\b=none)\/∃r cap rest,b=some r/\v=.slice (some ⟨r,0,none⟩) n cap/\H r=some (.cells (cs++rest).toArray E (0,0),true)/\(cs++rest).length=cap * eH/\n<=cap)
theorem jH.nil(H:Hp)(E:TypeId)(eH:Nat):jH H E eH (.slice none 0 0) [] 0 none:=⟨by simp,.inl ⟨rfl,rfl,rfl⟩⟩
structure DG(H H':Hp)(b b':Option Nat):Prop where
 gh:H'.gh=H.gh
 keep:∀c y,H c=some y->b≠some c->H' c=some y
 new:b'=b\/∃r,b'=some r/\H r=none
theorem jH.sub{H H':Hp}{v:Value}{n:Nat}{b:Option Nat}(h:jH H E eH v cs n b)(hs:∀c y,b=some c->H c=some y->H' c=some y):jH H' E eH v cs n b:=by obtain⟨h0,h⟩:=h;refine⟨h0,h.imp id ?_⟩;rintro⟨r,cap,rest,h1,h2,h3,h4⟩;exact⟨r,cap,rest,h1,h2,hs r _ h1 h3,h4⟩
theorem jH.cells{H:Hp}{v:Value}{n:Nat}{b:Option Nat}(h:jH H E eH v cs n b):∃A c,v=.slice A n c/\(n≠0->∃a,A=some a/\aD H a cs):=by
 obtain⟨h0,⟨h1,h2,h3⟩ | ⟨r,cap,rest,h1,h2,h3,h4,h5⟩⟩:=h
 ·subst h2;exact⟨none,0,h1,λh=>absurd rfl h⟩
 refine⟨some ⟨r,0,none⟩,cap,h2,λ_=>⟨_,rfl,rfl,_,_,h3,λj hj=>?_⟩⟩;simp only[Obj.mH,qAu,qAD];rw[qAN hj]
theorem Zme(n:Nat):∀(r c:Nat),Builtin.growBy n r c<=max c (n+(n+768) / 4)
 | 0,c=>by unfold Builtin.growBy;omega
 | r+1,c=>by
  unfold Builtin.growBy;split
  ·omega
  have:=Zme n r (c+(c+768) / 4);omega
theorem Xt{need old:Nat}(h:old<need):Builtin.nextslicecap need old<=2 * need+200:=by
 unfold Builtin.nextslicecap;split
 ·omega
 split
 ·omega
 have:=Zme need 4 old;omega
theorem WR{P:PQ}{H:Hp}(bB:P.still H.gh=false)(hc:aD H a cs){Q:Array Value->Bool->Hp->Prop}{g:Bool}(hq:Q cs.toArray g H){n:Nat}(hn:cs.length=n):cD P (loadCells a n) Q g H:=by obtain⟨h1,o,p,h2,h3⟩:=hc;subst hn;unfold loadCells;exact MI bB h2 h1 Q g cs 0 #[] (λj hj=>by rw[qAu];exact h3 j hj) (by simpa using hq)
theorem ZnN(zero:Array Value)(n:Nat):(Builtin.zeroCells zero n).size=n * zero.size:=by simp[Builtin.zeroCells]
theorem Zyp{n m:Nat}{s:Value}{xs:List Value}{b:Option Nat}(hu:P.toProgram.underlying sT=some (.slice E))(ti:TI P.toProgram E eH zv gR)(hz:zv.cells.size=eH)(he:0<eH)
  (ho:jH H E eH s cs n b) (hw:(m=0/\∃A c,w=.slice A 0 c)\/∃a c,w=.slice (some a) m c/\aD H a xs) (hl:xs.length=m * eH) (h1:(xs.all Value.dZ)=true) (gI:n+m<=1000000000) (kS:gR<=1000) (bB:P.still H.gh=false)
  {K:Value->Hp->Prop} (h:∀v' H' b',jH H' E eH v' (cs++xs) (n+m) b'->DG H H' b b'->K v' H'):cD P (Builtin.append_ #[sT,sT] T #[s,w]) (λv _ H'=>K v H') false H:=by
 obtain⟨p9,i1,i2,i3,i4⟩:=ti.ex;obtain⟨h0,QE⟩:=ho;have dJ:∀Q g,Q m g H->cD P (Builtin.lenOf w) Q g H:=by intro Q g hq;rcases hw with⟨rfl,A,c,rfl⟩ | ⟨a,c,rfl,_⟩<;>simpa[Builtin.lenOf,Zj]using hq
 have kC:∀(Q:Array Value->Bool->Hp->Prop) g,Q xs.toArray g H->cD P (Builtin.firstCells eH m w) Q g H:=by
  intro Q g hq;rcases hw with⟨rfl,A,c,rfl⟩ | ⟨a,c,rfl,hc⟩
  ·have:xs=[]:=qAf (by simpa using hl);subst this;cases A<;>simpa[Builtin.firstCells,Zj,loadCells,loadCellsFrom]using hq
  simp only[Builtin.firstCells];exact WR bB hc hq hl
 have main:∀(base:Option Addr) (cap:Nat),s=.slice base n cap->(n+m<=cap->cD P (Builtin.firstCells eH m w) (λnew g H1=>match base with | some a=>cD P (storeCells (a.add (n * eH)) new.toList) (λ_ _ H'=>K (.slice base (n+m) cap) H') g H1 | none=>K (.slice base (n+m) cap) H1) false H) ->
   (cap<n+m->∀(Q:Array Value->Bool->Hp->Prop) g,Q cs.toArray g H->cD P (Builtin.firstCells eH n s) Q g H)->(cap<n+m->b=none\/∃r,b=some r)->cD P (Builtin.append_ #[sT,sT] T #[s,w]) (λv _ H'=>K v H') false H:=by
  intro base cap hs PB sS hb
  have Fk:((TypeDesc.slice E) matches .int _)=false:=rfl
  simp only[Builtin.append_,qAD,qBc,qAU,Zh,Zy hu,hs,Z6 i1,i2,Zj,iN,qAk]
  refine dJ _ _ ?_
  simp only[qCu,qAM]
  by_cases kK:n+m<=cap
  ·rw[iO kK];have:=PB kK;cases base<;>simpa only[Zh,Zj]using this
  ·rw[bY kK];simp only[Zh,O2 i1,i4];rw[bY (by rintro⟨h,_⟩;simp[IntKind.max,IntKind.bits,IntKind.signed]at h;omega)];simp only[Zh,Zj,O2 i1,i4];have BR:¬ Builtin.nextslicecap (n+m) cap * gR > 2 ^ 48:=by have h1:=Xt (need:=n+m) (old:=cap) O;have h2:Builtin.nextslicecap (n+m) cap * gR<=(2 * (n+m)+200) * 1000:=qCL h1 kS;omega
   rw[bY BR];simp only[Zh,Zj,choose];rw[cD];simp only[Question.forced,iN,qAk];refine⟨bB,λt=>?_⟩;have yC:n+m<=(Question.appendCap (n+m) cap E).cut t:=by simp only[Question.cut];omega
   generalize(Question.appendCap (n+m) cap E).cut t=nc at yC;rw[cD];have BS:∀(Q:Unit->Bool->Hp->Prop),Q () false H->cD P (askRoom (nc * gR)) Q false H:=by
    intro Q hq;unfold askRoom;split
    ·exact⟨.inr ⟨rfl,bB⟩,hq⟩
    exact hq
   rw[O2 i1,i4];refine BS _ ?_;refine hs ▸ sS O _ _ ?_;refine kC _ _ ?_;simp only[UC i1 i3,newRow,Zh,newObj,Zj];refine⟨bB,λr hr=>?_⟩;have gD:DG H (H.ins r (.cells (cs.toArray++xs.toArray++Builtin.zeroCells zv.cells (nc-(n+m))) E)) b (some r):=by refine⟨rfl,λc y hc _=>?_,.inr ⟨r,rfl,hr⟩⟩;rw[Hp.aE _ _ (by rintro rfl;rw[hr]at hc;simp at hc)];exact hc
   refine h _ _ _ ⟨by rw[qAc,h0,hl,qCz],.inr ⟨r,nc,(Builtin.zeroCells zv.cells (nc-(n+m))).toList,rfl,rfl,?_,?_,yC⟩⟩ gD
   ·rw[Hp.aF];simp
   simp only[qAc,h0,hl,qBN,ZnN,hz];rw[<-qCz,<-qCz];congr 1;omega
 rcases QE with⟨rfl,rfl,rfl⟩ | ⟨r,cap,rest,rfl,rfl,h3,h4,h5⟩
 ·have tC:cs=[]:=qAf (by simpa using h0);subst tC;refine main none 0 rfl (λkK=>?_) (λ_ Q g hq=>by simpa[Builtin.firstCells,Zj]using hq) (λ_=>.inl rfl);have hm:m=0:=O;subst hm;have FW:xs=[]:=qAf (by simpa using hl);subst FW;refine kC _ _ ?_;exact h _ _ none ⟨by simp,.inl ⟨rfl,rfl,rfl⟩⟩ ⟨rfl,λc y hc _=>hc,.inl rfl⟩
 refine main (some ⟨r,0,none⟩) cap rfl (λkK=>?_) (λ_ Q g hq=>?_) (λ_=>.inr ⟨r,rfl⟩)
 ·refine kC _ _ ?_;show cD _ _ _ _ _;have ha:(⟨r,0,none⟩:Addr).add (n * eH)=⟨r,n * eH,none⟩:=by rw[W3 rfl,qAu]
  rw[ha];have oY:n * eH+m * eH<=cap * eH:=by rw[<-qCz];exact Nat.mul_le_mul_right _ kK
  rw[qAc,h0]at h4;refine L8 _ _ xs (n * eH) 0 (cs++rest) H bB h3 h1 (by rw[qAc,h0,hl];omega) ?_;refine h _ _ (some r) ⟨by rw[qAc,h0,hl,qCz],.inr ⟨r,cap,rest.drop (m * eH),rfl,rfl,?_,?_,kK⟩⟩ ⟨rfl,λc y hc dG=>?_,.inl rfl⟩
  ·rw[Hp.aF];have e1:(cs++rest).take (n * eH+0)=cs:=by rw[qBY,qCb O,qBA O]
   have e2:(cs++rest).drop (n * eH+0+xs.length)=rest.drop (m * eH):=by rw[qBY,hl,qDf,qBr O,qAx,h0];congr 1;omega
   rw[e1,e2]
  ·simp only[qAc,h0,hl,List.length_drop];omega
  rw[Hp.aE _ _ (by rintro rfl;exact dG rfl)];exact hc
 simp only[Builtin.firstCells];refine WR (cs:=cs) bB ⟨rfl,_,_,h3,λj hj=>?_⟩ hq h0;simp only[Obj.mH,qAu,qAD];rw[qAN hj]
theorem S9{t6:TypeId}{n m:Nat}{s:Value}{xs:List Value}{b:Option Nat}(hu:P.toProgram.underlying sT=some (.slice E))(HH:P.toProgram.underlying t6=some (.slice E))(ti:TI P.toProgram E eH zv gR)(hz:zv.cells.size=eH)(he:0<eH)
  (e1:σ.get x=some s) (e2:σ.get y=some w)
  (ho:jH H E eH s cs n b) (hw:(m=0/\∃A c,w=.slice A 0 c)\/∃a c,w=.slice (some a) m c/\aD H a xs) (hl:xs.length=m * eH) (h1:(xs.all Value.dZ)=true) (gI:n+m<=1000000000) (kS:gR<=1000) (bB:P.still H.gh=false)
  (h:∀v' H' b',jH H' E eH v' (cs++xs) (n+m) b'->DG H H' b b'->next (σ.set d v') H'):(bC.raw (.call { callee:=.builtin .append,args:=#[x,y],argTypes:=#[sT,t6] }) T).m P d next σ H:=by
 refine YS (s:=Builtin.append_ #[sT,t6] T #[s,w]) (by simp[Op.operands,Call.operands,e1,e2]) (by simp[execOp,aP,resolve,invoke,builtin,e1,e2]) ?_;have:Builtin.append_ #[sT,t6] T #[s,w]=Builtin.append_ #[sT,t6] T #[s,w]:=rfl;have hh:=Zyp (T:=T) hu ti hz he ho hw hl h1 gI kS bB h;obtain⟨p9,i1,_⟩:=ti.ex;by_cases e:t6=sT
 ·rw[e];exact hh
 have key:cD P.toPQ (Builtin.append_ #[sT,t6] T #[s,w]) (λv _ H'=>next (σ.set d v) H') false H↔cD P.toPQ (Builtin.append_ #[sT,sT] T #[s,w]) (λv _ H'=>next (σ.set d v) H') false H:=by simp only[Builtin.append_,qAD,qBc,qAU,Zh,Zy hu];cases s<;>simp only[Zh,Zy HH,Zy hu,Zj]
 exact key.2 hh
theorem Yg{H:Hp}{o:Obj}(hr:H r=none):H.Sub (H.ins r o):=⟨λc y hc=>by rw[Hp.aE _ _ (by rintro rfl;rw[hr]at hc;simp at hc)];exact hc,rfl⟩
theorem Vs(ti:TI P.toProgram t sz zv gR)(bB:P.still H.gh=false)(h:∀r,H r=none->next (σ.set d (.pointer (some ⟨r,0,none⟩))) (H.ins r (.cells zv.cells t))):(bC.raw (.alloc t) ty).m P d next σ H:=by obtain⟨p9,i1,i2,i3,i4⟩:=ti.ex;refine YS (by simp[Op.operands]) (s:=Instr.alloc t true (.tuple #[])) (by simp[execOp,aP]) ?_;simp only[Instr.alloc,Zh,UC i1 i3,newVar,newRow,newObj,Zj];exact⟨bB,λr hr=>h r hr⟩
theorem V9(e:σ.get x=some v)(bB:P.still H.gh=false)(h:∀r,H r=none->next (σ.set d (.pointer (some ⟨r,0,none⟩))) (H.ins r (.cells v.cells t))):(bC.raw (.box t x) ty).m P d next σ H:=by refine YS (by simp[Op.operands,e]) (s:=Instr.box t v) (by simp[execOp,aP,e]) ?_;simp only[Instr.box,Zh,newVar,newRow,newObj,Zj];exact⟨bB,λr hr=>h r hr⟩
theorem OD{off:Nat}(ti:TI P.toProgram t sz zv gR)(e1:σ.get x=some (.pointer (some ⟨b,off,none⟩)))(e2:σ.get y=some v)(hb:H b=some (.cells cs.toArray E (0,0),true))(h1:v.cells.size=sz)(h2:off+sz<=cs.length)(h3:(v.cells.toList.all Value.dZ)=true)
  (bB:P.still H.gh=false) (h:next (σ.set d undef) (H.ins b (.cells (ZH cs off v.cells.toList).toArray E))):(bC.raw (.store t x y) ty).m P d next σ H:=by
 obtain⟨p9,i1,i2,i3,i4⟩:=ti.ex;refine ZiE (by simp[Op.operands,e1,e2]) (s:=Instr.storeAt t (.pointer (some ⟨b,off,none⟩)) v) (by simp[execOp,aP,e1,e2]) ?_;have dG:¬ v.cells.size≠sz:=by simp[h1]
 simp only[Instr.storeAt,Instr.sureAddr,storeVar,Zh,Zj,Z6 i1,i2,bY dG];refine L8 _ _ v.cells.toList off 0 cs H bB hb h3 (by simp[h1];omega) ?_;unfold ZH at h;exact h
theorem Vp{v0:Value}(ti:TI P.toProgram t 1 zv gR)(e1:σ.get x=some (.pointer (some ⟨b,0,none⟩)))(e2:σ.get y=some v)(hb:H b=some (.cells #[v0] E (0,0),true))(h1:v.cells=#[v])(h3:Value.dZ v=true)
  (bB:P.still H.gh=false) (h:next (σ.set d undef) (H.ins b (.cells #[v] E))):(bC.raw (.store t x y) ty).m P d next σ H:=by
 refine OD ti e1 e2 (cs:=[v0]) hb (by rw[h1];rfl) (by simp) (by rw[h1];simpa using h3) bB ?_;rw[h1];exact h
theorem ZiB(ti:TI P.toProgram t sz zv gR)(e1:σ.get x=some (.pointer (some ⟨b,0,none⟩)))(e2:σ.get y=some v)(hb:H b=some (.cells cs.toArray E (0,0),true))(h1:v.cells.size=sz)(h2:cs.length=sz)(h3:(v.cells.toList.all Value.dZ)=true)
  (bB:P.still H.gh=false) (h:next (σ.set d undef) (H.ins b (.cells v.cells E))):(bC.raw (.store t x y) ty).m P d next σ H:=by
 refine OD ti e1 e2 hb h1 O h3 bB ?_;have:ZH cs 0 v.cells.toList=v.cells.toList:=by unfold ZH;rw[qCM,qAx,qBr (by simp;omega),qAj]
 rw[this];exact h
theorem RF(hu:P.toProgram.underlying t=some (.slice E))(ti:TI P.toProgram E sz zv gR)(bB:P.still H.gh=false)(h:∀r,H r=none->next (σ.set d (.slice (some ⟨r,0,none⟩) 0 0)) (H.ins r (.cells #[] E))):(bC.raw (.buildSlice t 0 #[]) ty).m P d next σ H:=by
 obtain⟨p9,i1,i2,i3,i4⟩:=ti.ex;refine YS (by simp[Op.operands]) (s:=Instr.buildSlice t 0 #[]) (by simp[execOp,aP]) ?_;simp only[Instr.buildSlice,Zh,Zy hu,Z6 i1,qCm,Zj];simp only[Instr.fill,newRow,newObj,Zh,Zj];simp;refine⟨bB,λr hr=>?_⟩;have e:(Array.map (λ_=>(default:Value)) (Array.range 0))=#[]:=by simp
 rw[e];exact h r hr
theorem X2{H:Hp}:jH (H.ins r (.cells #[] E)) E eH (.slice (some ⟨r,0,none⟩) 0 0) [] 0 (some r):=⟨by simp,.inr ⟨r,0,[],rfl,rfl,Hp.aF _ _ _,by simp,aC _⟩⟩
theorem VP{f:Fn}{fs cs:Array Operand}{f1 c1:List Value}(hf:σ.gets fs.toList=some f1)(hc:σ.gets cs.toList=some c1)(h:next (σ.set d (.func f f1.toArray c1.toArray)) H) :
  (bC.raw (.makeFunc f fs cs) ty).m P d next σ H:=by
 obtain⟨a1,a2⟩:=Of hf;obtain⟨b1,b2⟩:=Of hc;have e1:fs.map (λx=>(σ.get x).getD undef)=f1.toArray:=by obtain⟨fs⟩:=fs;simp only[qBl];rw[a1]
 have e2:cs.map (λx=>(σ.get x).getD undef)=c1.toArray:=by obtain⟨cs⟩:=cs;simp only[qBl];rw[b1]
 refine YS ?_ (s:=Instr.makeFunc f f1.toArray c1.toArray) (by simp[execOp,aP,e1,e2]) h;simp only[Op.operands,Array.all_append,BY];exact⟨by rw[<-Array.all_toList];exact a2,by rw[<-Array.all_toList];exact b2⟩
theorem Uo{P:PQ}{v:Value}(h:∀(Q:Value->Bool->Hp->Prop) (g:Bool) (H:Hp),Q v g H->cD P s Q g H):oL P (do let v <-s;pure (.value v)) v:=by intro Q g H hq;rw[Zh];exact h _ _ _ hq
theorem LN(e1:σ.get x=some (.int k m))(e2:σ.get y=some (.int k n))(h:next (σ.set d (.int k (max m n))) H):(bC.dA (.call { callee:=.builtin .max,args:=#[x,y],argTypes:=ts }) ty).m P d next σ H:=by
 have e:(if n > m then n else m)=max m n:=O;refine Y5 (by simp[Op.operands,Call.operands,e1,e2]) ?_ h;have:execOp (λx=>(σ.get x).getD undef) (aP (.call { callee:=.builtin .max,args:=#[x,y],argTypes:=ts }) ty)=(do let v <-Builtin.max_ ts ty #[.int k m,.int k n];pure (.value v)):=by simp[execOp,aP,resolve,invoke,builtin,e1,e2]
 rw[this];refine Uo λQ g H hq=>?_;simp only[Builtin.max_,List.foldlM,Builtin.max2,Zh,Zj,e];exact hq
theorem ZiH(e1:σ.get x=some (.int k m))(e2:σ.get y=some (.int k n))(h:next (σ.set d (.int k (min m n))) H):(bC.dA (.call { callee:=.builtin .min,args:=#[x,y],argTypes:=ts }) ty).m P d next σ H:=by
 have e:(if n<m then n else m)=min m n:=O;refine Y5 (by simp[Op.operands,Call.operands,e1,e2]) ?_ h;have:execOp (λx=>(σ.get x).getD undef) (aP (.call { callee:=.builtin .min,args:=#[x,y],argTypes:=ts }) ty)=(do let v <-Builtin.min_ ts ty #[.int k m,.int k n];pure (.value v)):=by simp[execOp,aP,resolve,invoke,builtin,e1,e2]
 rw[this];refine Uo λQ g H hq=>?_;simp only[Builtin.min_,List.foldlM,Builtin.min2,Zh,Zj,e];exact hq
theorem AB(e1:σ.get x=some (.int k m))(e2:σ.get y=some (.int k n))(hn:n≠0)(h:next (σ.set d (.int k (m.tmod n))) H):(bC.dA (.binOp .rem t x y t2) ty).m P d next σ H:=by
 refine Y5 (by simp[Op.operands,e1,e2]) ?_ h;have:execOp (λx=>(σ.get x).getD undef) (aP (.binOp .rem t x y t2) ty)=pure (.value (.int k (m.tmod n))):=by simp[execOp,aP,e1,e2,eqGuard,binOp,Op.intDiv,hn]
 rw[this];exact λQ g H hq=>hq
theorem VC(e1:σ.get x=some (.int .i64 m))(e2:σ.get y=some (.int .i64 n))(hn:n≠0)(hr:wC (m.tdiv n))(h:next (σ.set d (.int .i64 (m.tdiv n))) H):(bC.dA (.binOp .quo t x y t2) ty).m P d next σ H:=by
 refine Y5 (by simp[Op.operands,e1,e2]) ?_ h;have:execOp (λx=>(σ.get x).getD undef) (aP (.binOp .quo t x y t2) ty)=pure (.value (.int .i64 (m.tdiv n))):=by simp[execOp,aP,e1,e2,eqGuard,binOp,Op.intDiv,hn,Uk hr]
 rw[this];exact λQ g H hq=>hq
theorem LR{o:BinOp}(e1:σ.get x=some (.int k m))(e2:σ.get y=some (.int k n))(ho:o=.and\/o=.or\/o=.xor\/o=.andNot)(hv:(match o with | .xor=>.int k (k.wrap (BitVec.ofInt k.bits m ^^^ BitVec.ofInt k.bits n).toNat) | o=>ZB o k m n)=v)(h:next (σ.set d v) H) :
  (bC.dA (.binOp o t x y t2) ty).m P d next σ H:=by
 refine Y5 (by simp[Op.operands,e1,e2]) ?_ h;subst hv;rcases ho with rfl | rfl | rfl | rfl<;>(simp only[execOp,aP,e1,e2,Option.getD_some];exact λQ g H hq=>by simpa[Zh,Zj,eqGuard,binOp,Op.intBits,ZB]using hq)
theorem KC{o:BinOp}(e1:σ.get x=some (.int k m))(e2:σ.get y=some (.int k2 n))(ho:o=.shr\/o=.shl)(hn:0<=n)(hv:ZB o k m n=v)(h:next (σ.set d v) H) :
  (bC.dA (.binOp o t x y t2) ty).m P d next σ H:=by
 refine Y5 (by simp[Op.operands,e1,e2]) ?_ h;subst hv;have:¬ n<0:=O;rcases ho with rfl | rfl<;>(simp only[execOp,aP,e1,e2,Option.getD_some];exact λQ g H hq=>by simpa[Zh,Zj,eqGuard,binOp,Op.shift,ZB,this]using hq)
theorem Vr{s:TypeId}{k0:IntKind}(hs:P.toProgram.underlying s=some (.int k0))(ht:P.toProgram.underlying t=some (.int k))(e1:σ.get x=some (.int k0 m))(h:next (σ.set d (.int k (k.wrap m))) H):(bC.dA (.convert s t x) ty).m P d next σ H:=by
 refine Y5 (by simp[Op.operands,e1]) ?_ h;have:execOp (λx=>(σ.get x).getD undef) (aP (.convert s t x) ty)=(do let v <-convert s t (.int k0 m);pure (.value v)):=by simp[execOp,aP,e1]
 rw[this];refine Uo λQ g H hq=>?_;simp only[convert,Zh,Zy hs,Zy ht,Conv.intToInt,Zj];exact hq
theorem VD(e:σ.get x=some (.pointer (some a)))(h:next (σ.set d (.pointer (some a))) H):(bC.dA (.nilCheck x) ty).m P d next σ H:=by
 refine Y5 (by simp[Op.operands,e]) ?_ h;have:execOp (λx=>(σ.get x).getD undef) (aP (.nilCheck x) ty)=pure (.value (.pointer (some a))):=by simp[execOp,aP,e]
 rw[this];exact λQ g H hq=>hq
theorem ZiD{a:Option Addr}(hu:P.toProgram.underlying t=some (.slice E))(ti:TI P.toProgram E sz zv gR)(e1:σ.get x=some (.slice a len cap))(e2:σ.get y=some (.int k (lo:Int)))(IG:lo<=len)
  (h:next (σ.set d (.slice (if cap=lo then a else a.map (·.add (lo * sz))) (len-lo) (cap-lo))) H):(bC.dA (.slice t x (some y) none none) ty).m P d next σ H:=by
 obtain⟨p9,i1,i2,i3,i4⟩:=ti.ex;refine Y5 (by simp[Op.operands,e1,e2]) ?_ h;have:execOp (λx=>(σ.get x).getD undef) (aP (.slice t x (some y) none none) ty)=(do let v <-Instr.sliceAt t (.slice a len cap) (some (.int k (lo:Int))) none none;pure (.value v)):=by simp[execOp,aP,e1,e2]
 rw[this];refine Uo λQ g H hq=>?_;have hc:(0:Int)<=(lo:Int)/\(lo:Int)<=(len:Nat):=⟨O,O⟩;simp only[Instr.sliceAt,Zh,Zy hu,Instr.slice,Instr.sliceBounds,Instr.sliceBound,asIntOf,Zj,iO hc,Z6 i1,i2,qAA];exact hq
theorem Ls{hi:Nat}{a:Option Addr}{lx hx:Option Operand}(hu:P.toProgram.underlying t=some (.slice E))(ti:TI P.toProgram E sz zv gR)(e1:σ.get x=some (.slice a len cap))(e2:(lx=none/\lo=0)\/∃y,lx=some y/\σ.get y=some (.int k (lo:Int)))(e3:∃z,hx=some z/\σ.get z=some (.int k2 (hi:Int)))(IG:lo<=hi)(hhi:hi<=cap)
  (h:next (σ.set d (.slice (if cap=lo then a else a.map (·.add (lo * sz))) (hi-lo) (cap-lo))) H):(bC.dA (.slice t x lx hx none) ty).m P d next σ H:=by
 obtain⟨p9,i1,i2,i3,i4⟩:=ti.ex;obtain⟨z,rfl,e3⟩:=e3;have hc:(0:Int)<=(lo:Int)/\(lo:Int)<=(hi:Nat):=⟨O,O⟩;have rL:(0:Int)<=(hi:Int)/\(hi:Int)<=(cap:Nat):=⟨O,O⟩;rcases e2 with⟨rfl,rfl⟩ | ⟨y,rfl,e2⟩
 ·refine Y5 (by simp[Op.operands,e1,e3]) ?_ h;have:execOp (λx=>(σ.get x).getD undef) (aP (.slice t x none (some z) none) ty)=(do let v <-Instr.sliceAt t (.slice a len cap) none (some (.int k2 (hi:Int))) none;pure (.value v)):=by simp[execOp,aP,e1,e3]
  rw[this];refine Uo λQ g H hq=>?_;simp only[Instr.sliceAt,Zh,Zy hu,Instr.slice,Instr.sliceBounds,Instr.sliceBound,asIntOf,Zj,iO rL,Z6 i1,i2,qAA];exact hq
 refine Y5 (by simp[Op.operands,e1,e2,e3]) ?_ h;have:execOp (λx=>(σ.get x).getD undef) (aP (.slice t x (some y) (some z) none) ty)=(do let v <-Instr.sliceAt t (.slice a len cap) (some (.int k (lo:Int))) (some (.int k2 (hi:Int))) none;pure (.value v)):=by simp[execOp,aP,e1,e2,e3]
 rw[this];refine Uo λQ g H hq=>?_;simp only[Instr.sliceAt,Zh,Zy hu,Instr.slice,Instr.sliceBounds,Instr.sliceBound,asIntOf,Zj,iO hc,iO rL,Z6 i1,i2,qAA];exact hq
theorem Zte(hu:P.toProgram.underlying t=some (.array len e))(ti:TI P.toProgram e eH zv gR)(e1:σ.get x=some (.pointer (some a)))(e2:σ.get y=some (.int k (i:Int)))(hi:i<len)
  (h:next (σ.set d (.pointer (some (a.add (i * eH))))) H):(bC.raw (.indexAddr t x y) ty).m P d next σ H:=by
 obtain⟨p9,i1,i2,i3,i4⟩:=ti.ex;refine YS (by simp[Op.operands,e1,e2]) (s:=Instr.indexAt t (.pointer (some a)) (.int k (i:Int))) (by simp[execOp,aP,e1,e2]) ?_;have hc:(0:Int)<=(i:Int)/\(i:Int)<(len:Nat):=⟨O,O⟩;simp only[Instr.indexAt,Zh,asIntOf,Zj,Zy hu,Instr.sureAddr,iO hc,Z6 i1,i2,qAA];exact h
end
end
abbrev Nd:=Frame×List Frame×Hp
inductive Rk:Type
 | xR
 | node (f:Nd->Rk)
def Rk.lt:Rk->Rk->Prop
 | _,.xR=>False
 | y,.node f=>∃x,y=f x
theorem Rk.vB:∀x:Rk,Acc Rk.lt x
 | .xR=>⟨_,λ_ h=>h.elim⟩
 | .node f=>⟨_,λ_ ⟨x,h⟩=>h ▸ Rk.vB (f x)⟩
def Rk.ofNat:Nat->Rk
 | 0=>.xR
 | n+1=>.node λ_=>.ofNat n
theorem Rk.AD(n:Nat):Rk.lt (.ofNat n) (.ofNat (n+1)):=⟨(default,[],.nil),rfl⟩
def fO(Φ:(Nd->Prop)->Nd->Prop):Rk->Nd->Prop
 | .xR,_=>False
 | .node f,x=>Φ (λy=>fO Φ (f y) y) x
theorem Zp7{Φ:(Nd->Prop)->Nd->Prop}(hm:∀{R R':Nd->Prop},(∀x,R x->R' x)->∀x,Φ R x->Φ R' x){x:Nd}(h:∀R:Nd->Prop,(∀x,Φ R x->R x)->R x):∃k,fO Φ k x:=by
 refine h (λx=>∃k,fO Φ k x) (λx hx=>?_)
 classical
 refine⟨.node λy=>if h:∃k,fO Φ k y then h.choose else .xR,?_⟩
 refine hm (λy hy=>?_) x hx
 simp only[dif_pos hy]
 exact hy.choose_spec
theorem fO.step{Φ:(Nd->Prop)->Nd->Prop}(hm:∀{R R':Nd->Prop},(∀x,R x->R' x)->∀x,Φ R x->Φ R' x){k:Rk}{x:Nd}(h:fO Φ k x):Φ (λy=>∃k',Rk.lt k' k/\fO Φ k' y) x:=by
 cases k with
 | xR=>exact h.elim
 | node f=>exact hm (λy hy=>⟨f y,⟨y,rfl⟩,hy⟩) x h
def K6(n:Nat)(ρ' ρ:Nat->Rk):Prop:=∃j,j<n/\Rk.lt (ρ' j) (ρ j)/\∀k,k≠j->ρ' k=ρ k
theorem Mc:∀(n:Nat) (ρ:Nat->Rk),Acc (K6 n) ρ
 | 0,ρ=>⟨_,λ_ ⟨_,h,_⟩=>absurd h (qBh _)⟩
 | n+1,ρ=>by
  have key:∀x,Acc Rk.lt x->∀ρ,Acc (K6 n) ρ->ρ n=x->Acc (K6 (n+1)) ρ:=by
   intro x hx;induction hx with
   | intro x _ ihx=>
    intro ρ hρ;induction hρ with
    | intro ρ _ ihρ=>
     intro e;refine⟨_,λρ' ⟨j,hj,bV,hk⟩=>?_⟩;by_cases We:j=n
     ·subst We;exact ihx (ρ' j) (e ▸ bV) ρ' (Mc j ρ') rfl
     exact ihρ ρ' ⟨j,O,bV,hk⟩ ((hk n (qAi We)).trans e)
  exact key _ (Rk.vB _) ρ (Mc n ρ) rfl
abbrev Ms:=Nat×Nat×(Nat->Rk)×Nat
def pZ(n:Nat):Ms->Ms->Prop:=Prod.Lex (·<·) (Prod.Lex (·<·) (Prod.Lex (K6 n) (·<·)))
theorem ZtO(n:Nat):WellFounded (pZ n):=
 ⟨λ⟨_,_,_,_⟩=>qCR (Nat.lt_wfRel.wf.apply _) (λx=>by obtain⟨_,_,_⟩:=x;exact qCR (Nat.lt_wfRel.wf.apply _) (λx=>by obtain⟨_,_⟩:=x;exact qCR (Mc n _) (λ_=>Nat.lt_wfRel.wf.apply _) _) _) _⟩
variable{w w':World}{i:Nat}{fr:Frame}{es:Array Event}{t aI:Trace}{cs:List Frame}
open Go.Conc (Knows Deaf touchAt QuitsD rcase scase recvd parked)
abbrev gP(fr:Frame)(cs:List Frame):Goroutine:={ frame:=fr,callers:=cs,status:=.blocked,dying:=none }
def _root_.Go.Loc.gP:Loc->Option Nat
 | .cell a=>some a.block
 | .obj r=>some r
 | _=>none
def Hp.Dis(H F:Hp):Prop:=∀b x y,H b=some x->F b=some y->x=y/\x.2=false
theorem Hp.Dis.symm{H F:Hp}(h:H.Dis F):F.Dis H:=λb x y h1 h2=>by obtain⟨e,p⟩:=h b y x h2 h1;exact⟨e.symm,by rw[<-e];exact p⟩
theorem Hp.Dis.left{H F J:Hp}(h:(H.join F).Dis J):H.Dis J:=λb x y h1 h2=>h b x y (Hp.aK h1) h2
theorem Hp.Dis.right{H F J:Hp}(hc:H.Comp F)(h:(H.join F).Dis J):F.Dis J:=λb x y h1 h2=>h b x y (Hp.aS hc h1) h2
theorem Hp.Dis.join{H F J:Hp}(h1:H.Dis J)(h2:F.Dis J):(H.join F).Dis J:=λb x y hx hy=>by
 simp only[Hp.aX]at hx;cases hh:H b with
 | none=>rw[hh]at hx;exact h2 b x y hx hy
 | some z=>rw[hh]at hx;exact h1 b x y (by rw[hh];exact hx) hy
structure wB(w w':World):Prop where
 os:Go.ConcM.OsLater w.os w'.os
 tape:w'.tape=w.tape
 out:w'.output=w.output
theorem wB.refl(w:World):wB w w:=⟨.refl _,rfl,rfl⟩
theorem wB.trans{a b c:World}(h:wB a b)(k:wB b c):wB a c:=⟨h.os.trans k.os,k.tape.trans h.tape,k.out.trans h.out⟩
def iY(H Hs:Hp)(w:World)(K:Hp):Prop:=∀b x,K b=some x->w.heap.size<=b\/∃y,(H b=some y\/Hs b=some y)/\(y.2=false->x=y)
theorem iY.dis{H Hs K F:Hp}(h:iY H Hs w K)(hF:F.le w)(h1:H.Dis F)(h2:Hs.Dis F):K.Dis F:=by
 intro b x y hx hy;rcases h b x hx with h | ⟨z,hz,he⟩
 ·exact absurd (hF.lt hy) O
 have:z=y/\z.2=false:=hz.elim (λhz=>h1 b z y hz hy) (λhz=>h2 b z y hz hy);rw[he this.2];exact this
def eR(t:Trace)(i:Nat)(H:Hp):Prop:=∀b o p,H b=some (o,p)->∀q a,touchAt t q=some a->a.loc.gP=some b->(p=true\/a.write=true)->Knows t i q
structure Vx(p:Program) where
 S:Type
 tag:S->Nat->List Nat
 next:S->Nat
 more:S->Nat
 Inv:S->Hp->Trace->Prop
 Blk:S->Nat->Prop
 act:List Nat->Prop
 hsh:List Nat->Prop
 left:List Nat
 stl:List Nat->Bool
 stlNil:stl []=true
 ch:Nat
 cls:S->Bool
 can:Bool->List Nat->Prop
 puts:List Nat->List Nat->Value->Hp->Prop
 gets:List Nat->List Nat->Value->Hp->Prop
 shut:List Nat->List Nat
def lv(d:Nat):List Nat:=[0,d]
def Hp.tagged(H:Hp)(g:List Nat):Hp:=⟨H.mem,g⟩
theorem Hp.kJ(H:Hp)(g:List Nat)(b:Nat):H.tagged g b=H b:=rfl
theorem Hp.hY{H F:Hp}(hF:F.gh=[])(g:List Nat):(H.join F).tagged g=(H.tagged g).join F:=Hp.ext' (λb=>rfl) (by simp[Hp.bP,Hp.tagged,hF])
theorem Hp.Comp.tagged{H F:Hp}(h:H.Comp F)(hF:F.gh=[])(g:List Nat):(H.tagged g).Comp F:=⟨λb x y h1 h2=>h b x y h1 h2,.inr hF⟩
section
variable{p:Program}(T:Vx p)
structure gN(i:Nat)(s:T.S)(Hs:Hp)(t:Trace)(w:World)(H:Hp)(aI:Trace)(s':T.S)(eG:Hp)(w':World):Prop where
 size:w.heap.size<=w'.heap.size
 keep:∀b,b<w.heap.size->(∀o,H b≠some (o,true))->(∀o,Hs b≠some (o,true))->w'.heap[b]? = w.heap[b]?
 leS:eG.le w'
 qG:iY H Hs w eG
 out:wB w w'
 tU:∀op∈aI,∀x,op.act.touch? = some x->∀b,x.loc.gP=some b->(∃o p,(H b=some (o,p)\/Hs b=some (o,p))/\(x.write=true->p=true))\/w.heap.size<=b
 norace:∀said q a,touchAt t q=some a->∀op∈aI,∀b,op.act.touch? = some b->a.conflicts said b->Knows t i q
 low:∀op∈aI,op.act.low w'.heap.size
 inv:T.Inv s' eG (t++aI)
structure g9(i:Nat)(Hs:Hp)(w:World)(H:Hp)(t':Trace)(eG:Hp)(w':World)(H':Hp):Prop where
 le:H'.le w'
 dis:H'.Dis eG
 k9:iY H Hs w H'
 perm:eR t' i H'
abbrev ZJ(i:Nat)(fr:Frame)(es:Array Event):Trace:=MemOp.ofEvents i fr.fn fr.place es
structure dH(i:Nat)(H:Hp)(s:T.S)(Hs:Hp)(t:Trace)(w:World):Prop where
 inv:T.Inv s Hs t
 tag:T.tag s i=H.gh
 lt:i<T.next s
 le:H.le w
 leS:Hs.le w
 dis:H.Dis Hs
 perm:eR t i H
 low:∀op∈t,op.act.low w.heap.size
 above:∀j,T.next s<=j->Deaf t j=0
def Oq(i:Nat)(K:Trace->Frame->List Frame->Hp->Prop)(fr:Frame)(cs:List Frame)(H:Hp)(s:T.S)(Hs:Hp)(t:Trace)(w:World):Prop:=
 ∃bW bJ w' H' s' eG es,stepG p (i == 0) (bT fr cs) w=.go (bT bW bJ) w' es/\gN T i s Hs t w H (ZJ i fr es) s' eG w'/\g9 i Hs w H (t++ZJ i fr es) eG w' H' /\
  (∀j,T.tag s' j=if j=i then H'.gh else T.tag s j)/\T.next s'=T.next s/\T.more s'<=T.more s/\(mayWake p (bT fr cs)=true\/∀j,T.Blk s j->T.Blk s' j)/\(T.cls s'=T.cls s\/(T.cls s'=true/\mayWake p (bT fr cs)=true/\i=0))/\K (t++ZJ i fr es) bW bJ H'
def WT(i:Nat)(fr:Frame)(cs:List Frame)(s:T.S)(w:World):Prop:=
 stepG p (i == 0) (bT fr cs) w=.go (gP fr cs) w #[]/\T.Blk s i
def xQ(H:Hp):Prop:=∀b,H b=none
def Hp.aP(g:List Nat):Hp:=⟨λ_=>none,g⟩
def Vf:Frame->List Frame->Hp->Prop:=λ_ _ _=>False
theorem GP:∀op∈ZJ i fr es,op.g=i:=λop bH=>by obtain⟨e,_,rfl⟩:=Go.Conc.mem_ofEvents bH;rfl
theorem eR.own{u:Trace}{H:Hp}(h:eR t i H)(hu:∀op∈u,op.g=i\/op.act.touch? = none):eR (t++u) i H:=by
 intro b o p hb q a hq hl hw;obtain⟨x,hx,gC⟩:=Go.Conc.touch_of hq;rcases Go.Conc.getElem?_append_cases hx with⟨hi,eP⟩ | ⟨_,xS⟩
 ·exact(h b o p hb q a (by rw[Go.Conc.touchAt_of eP];exact gC) hl hw).app u
 have:=Go.Conc.knows_own hx;rcases hu x xS with hg | hg
 ·rwa [hg]at this
 rw[hg]at gC;simp at gC
theorem eR.join{H F:Hp}(h:eR t i H)(h':eR t i F):eR t i (H.join F):=by
 intro b o p hb;simp only[Hp.aX]at hb;cases hh:H b with
 | none=>rw[hh]at hb;exact h' b o p hb
 | some z=>rw[hh]at hb;exact h b o p (by rw[hh];exact hb)
theorem eR.left{H F:Hp}(h:eR t i (H.join F)):eR t i H:=λb o p hb=>h b o p (Hp.aK hb)
theorem eR.right{H F:Hp}(hc:H.Comp F)(h:eR t i (H.join F)):eR t i F:=λb o p hb=>h b o p (Hp.aS hc hb)
theorem OM{H F:Hp}(hc:H.Comp F)(h0:H.gh≠[]):F.gh=[]:=hc.gh.resolve_left h0
variable{T}
theorem dH.left{H F:Hp}{s:T.S}{Hs:Hp}(hc:H.Comp F)(h0:H.gh≠[])(h:dH T i (H.join F) s Hs t w):dH T i H s Hs t w:=
 ⟨h.inv,by rw[h.tag,Hp.bP,OM hc h0,qAj],h.lt,h.le.left,h.leS,h.dis.left,h.perm.left,h.low,h.above⟩
theorem gN.frame{H F:Hp}{s s':T.S}{Hs eG:Hp}(h:gN T i s Hs t w H aI s' eG w'):gN T i s Hs t w (H.join F) aI s' eG w':=
 ⟨h.size,λb hb h1 h2=>h.keep b hb (λo ho=>h1 o (Hp.aK ho)) h2,h.leS,λb x hx=>(h.qG b x hx).imp id λ⟨y,hy,he⟩=>⟨y,hy.imp Hp.aK id,he⟩,h.out,
  λop bH x hx b hb=>(h.tU op bH x hx b hb).imp (λ⟨o,p,h1,h2⟩=>⟨o,p,h1.imp Hp.aK id,h2⟩) id,h.norace,h.low,h.inv⟩
theorem Bu{H F Hs:Hp}(h1:H.Dis F)(h2:Hs.Dis F)(hF:F.le w)(keep:∀b,b<w.heap.size->(∀o,H b≠some (o,true))->(∀o,Hs b≠some (o,true))->w'.heap[b]? = w.heap[b]?):F.le w':=by intro b o p hb;rw[keep b (hF.lt hb) (λo' pM=>by simpa using(h1 b _ _ pM hb).2) (λo' pM=>by simpa using(h2 b _ _ pM hb).2)];exact hF b o p hb
theorem g9.frame{H F:Hp}{s s':T.S}{Hs eG:Hp}{H':Hp}(hc:H.Comp F)(rD:∀op∈aI,op.g=i\/op.act.touch? = none)(ha:dH T i (H.join F) s Hs t w)
  (hm:gN T i s Hs t w H aI s' eG w') (h:g9 i Hs w H (t++aI) eG w' H'):g9 i Hs w (H.join F) (t++aI) eG w' (H'.join F):=by
 have hF:F.le w:=ha.le.right hc;have d1:H.Dis F:=hc.mem;have d2:Hs.Dis F:=(ha.dis.right hc).symm;have Jf:F.le w':=Bu d1 d2 hF hm.keep;refine⟨?_,?_,?_,?_⟩
 ·intro b o p hb;simp only[Hp.aX]at hb;cases hh:H' b with
  | none=>rw[hh]at hb;exact Jf b o p hb
  | some z=>rw[hh]at hb;exact h.le b o p (by rw[hh];exact hb)
 ·exact h.dis.join ((hm.qG.dis hF d1 d2).symm)
 ·intro b x hx;simp only[Hp.aX]at hx;cases hh:H' b with
  | none=>rw[hh]at hx;exact .inr ⟨x,.inl (Hp.aS hc hx),λ_=>rfl⟩
  | some z=>
   rw[hh]at hx;exact(h.k9 b x (by rw[hh];exact hx)).imp id λ⟨y,hy,he⟩=>⟨y,hy.imp Hp.aK id,he⟩
 exact h.perm.join ((ha.perm.right hc).own rD)
theorem g9.comp{H F:Hp}{s:T.S}{Hs eG:Hp}{t':Trace}{H':Hp}(hc:H.Comp F)(h0:H.gh≠[])(ha:dH T i (H.join F) s Hs t w)(h:g9 i Hs w H t' eG w' H'):H'.Comp F:=
 ⟨h.k9.dis (ha.le.right hc) hc.mem (ha.dis.right hc).symm,.inr (OM hc h0)⟩
theorem Oq.frame{K:Trace->Frame->List Frame->Hp->Prop}{H F:Hp}{s:T.S}{Hs:Hp}(hc:H.Comp F)(h0:H.gh≠[])(ha:dH T i (H.join F) s Hs t w)
  (h:Oq T i K fr cs H s Hs t w):Oq T i (λt' fr cs HF=>∃H',HF=H'.join F/\H'.Comp F/\K t' fr cs H') fr cs (H.join F) s Hs t w:=by
 obtain⟨bW,bJ,w',H',s',eG,es,h1,h2,h3,h4,h5,h6,h7,BZ,h8⟩:=h;exact⟨bW,bJ,w',H'.join F,s',eG,es,h1,h2.frame,h3.frame hc (λop bH=>.inl (GP op bH)) ha h2,λj=>by rw[h4,Hp.bP,OM hc h0,qAj],h5,h6,h7,BZ,H',rfl,h3.comp hc h0 ha,h8⟩
theorem Oq.mono{K K':Trace->Frame->List Frame->Hp->Prop}{H:Hp}{s:T.S}{Hs:Hp}(hk:∀t fr cs H,K t fr cs H->K' t fr cs H)
  (h:Oq T i K fr cs H s Hs t w):Oq T i K' fr cs H s Hs t w:=
 let⟨bW,bJ,w',H',s',eG,es,h1,h2,h3,h4,h5,h6,h7,BZ,h8⟩:=h
 ⟨bW,bJ,w',H',s',eG,es,h1,h2,h3,h4,h5,h6,h7,BZ,hk _ _ _ _ h8⟩
variable(T)
def OY(R:Frame->List Frame->Hp->Prop)(fr:Frame)(cs:List Frame)(H:Hp):Prop:=
 T.can true H.gh/\∃(v z:Value) (g':List Nat) (H1 Hm:Hp),(∀main w n,w.heap[T.ch]? = some (.chan 0 #[] false n n false)->stepG p main (bT fr cs) w=.comm (bT fr cs) #[scase T.ch v z] true .send w #[]) /\
  H=H1.join Hm/\H1.Comp Hm/\Hm.gh=[]/\T.puts H.gh g' v Hm/\T.act g'/\R (fr.finish undef) cs (H1.tagged g')
def OZ(R:Frame->List Frame->Hp->Prop)(fr:Frame)(cs:List Frame)(H:Hp):Prop:=
 T.can false H.gh/\∃(z:Value) (fM:Bool),(∀main w n cl,w.heap[T.ch]? = some (.chan 0 #[] cl n n false)->stepG p main (bT fr cs) w=.comm (bT fr cs) #[rcase T.ch z] true (.recv fM) w #[]) /\
  (∀g' v Hm,Hm.gh=[]->H.Dis Hm->T.gets H.gh g' v Hm->T.act g'/\R (fr.finish (recvd fM v true)) cs ((H.join Hm).tagged g'))/\T.act (T.shut H.gh)/\R (fr.finish (recvd fM z false)) cs (H.tagged (T.shut H.gh))
variable{T}
theorem OY.mono{R R':Frame->List Frame->Hp->Prop}(hr:∀fr cs H,R fr cs H->R' fr cs H){H:Hp}(h:OY T R fr cs H):OY T R' fr cs H:=by obtain⟨h0,v,z,g',H1,Hm,h1,h2,h3,h4,h5,h6,h7⟩:=h;exact⟨h0,v,z,g',H1,Hm,h1,h2,h3,h4,h5,h6,hr _ _ _ h7⟩
theorem OZ.mono{R R':Frame->List Frame->Hp->Prop}(hr:∀fr cs H,R fr cs H->R' fr cs H){H:Hp}(h:OZ T R fr cs H):OZ T R' fr cs H:=by obtain⟨h0,z,fM,h1,h2,h3,h4⟩:=h;exact⟨h0,z,fM,h1,λg' v Hm a b c=>⟨(h2 g' v Hm a b c).1,hr _ _ _ (h2 g' v Hm a b c).2⟩,h3,hr _ _ _ h4⟩
theorem OY.frame{R:Frame->List Frame->Hp->Prop}{H F:Hp}(hc:H.Comp F)(h0:H.gh≠[])(h:OY T R fr cs H):OY T (λfr cs HF=>∃H',HF=H'.join F/\H'.Comp F/\R fr cs H') fr cs (H.join F):=by
 have hF:=OM hc h0;have hg:(H.join F).gh=H.gh:=by rw[Hp.bP,hF,qAj]
 obtain⟨rK,v,z,g',H1,Hm,h1,rfl,h3,h4,h5,h6,h7⟩:=h;have c1:H1.Comp F:=hc.bX;have c2:Hm.Comp F:=Hp.Comp.cG h3 hc;refine⟨by rw[hg];exact rK,v,z,g',H1.join F,Hm,h1,?_,Hp.Comp.gX h3 c2.symm,h4,by rw[hg];exact h5,h6,H1.tagged g',Hp.hY hF g',c1.tagged hF g',h7⟩;rw[Hp.cV,Hp.cV,Hp.mZ c2]
theorem OZ.frame{R:Frame->List Frame->Hp->Prop}{H F:Hp}(hc:H.Comp F)(h0:H.gh≠[])(h:OZ T R fr cs H):OZ T (λfr cs HF=>∃H',HF=H'.join F/\H'.Comp F/\R fr cs H') fr cs (H.join F):=by
 have hF:=OM hc h0;have hg:(H.join F).gh=H.gh:=by rw[Hp.bP,hF,qAj]
 obtain⟨rK,z,fM,h1,h2,h3,h4⟩:=h;refine⟨by rw[hg];exact rK,z,fM,h1,?_,by rw[hg];exact h3,H.tagged (T.shut H.gh),by rw[hg];exact Hp.hY hF _,hc.tagged hF _,h4⟩;rw[hg];intro g' v Hm a b c;obtain⟨k1,k2⟩:=h2 g' v Hm a b.left c;have dF:F.Comp Hm:=⟨b.right hc,.inl hF⟩;refine⟨k1,(H.join Hm).tagged g',?_,(Hp.Comp.gX hc dF.symm).tagged hF g',k2⟩;rw[<-Hp.hY hF,Hp.cV,Hp.cV,Hp.mZ dF]
variable(T)
noncomputable def Vx.envW(i:Nat):Env where
 sh:=λR fr cs H=>H.gh≠[] /\
  ((∃d,H.gh=lv d/\((∃bW bJ es,(∀e∈es,Event.mute e=true)/\(∀main w,stepG p main (bT fr cs) w=.go (bT bW bJ) w es)/\R bW bJ (H.tagged (lv (deafBehind d es))))\/(d=0/\∃g:Goroutine,g.status=.finished/\∀w,stepG p false (bT fr cs) w=.go g w))) \/
     (T.act H.gh/\∀s Hs t w,dH T i H s Hs t w ->
    Oq T i (λ_ bW bJ H'=>(R bW bJ H'/\T.act H'.gh)\/(T.hsh H'.gh/\R bW bJ (H.tagged H'.gh))) fr cs H s Hs t w\/WT T i fr cs s w) \/
     (T.hsh H.gh/\∀s Hs t w,dH T i (.aP H.gh) s Hs t w ->
    Oq T i (λt' bW bJ H'=>xQ H'/\((T.hsh H'.gh/\R bW bJ (H.tagged H'.gh))\/(H'.gh=T.left/\R bW bJ (H.tagged (lv (Deaf t' i)))))) fr cs (.aP H.gh) s Hs t w\/WT T i fr cs s w) \/
     (T.act H.gh/\OZ T R fr cs H))
 shMono:=by
  rintro R R' hr fr cs H ⟨h0,h⟩;refine⟨h0,h.imp ?_ (qCJ ?_ (qCJ ?_ λh=>⟨h.1,h.2.mono hr⟩))⟩
  ·rintro⟨d,e,h⟩;exact⟨d,e,h.imp (λ⟨bW,bJ,es,h1,h2,h3⟩=>⟨bW,bJ,es,h1,h2,hr _ _ _ h3⟩) id⟩
  ·rintro⟨ha,h⟩;exact⟨ha,λs Hs t w ha=>(h s Hs t w ha).imp (Oq.mono λt fr cs H h=>h.imp (λh=>⟨hr _ _ _ h.1,h.2⟩) λh=>⟨h.1,hr _ _ _ h.2⟩) id⟩
  rintro⟨ha,h⟩;exact⟨ha,λs Hs t w ha=>(h s Hs t w ha).imp (Oq.mono λt fr cs H h=>⟨h.1,h.2.imp (λh=>⟨h.1,hr _ _ _ h.2⟩) λh=>⟨h.1,hr _ _ _ h.2⟩⟩) id⟩
 shFrame:=by
  rintro R fr cs H F hc ⟨h0,h⟩;have hF:=OM hc h0;have hg:(H.join F).gh=H.gh:=by rw[Hp.bP,hF,qAj]
  have EV:∀g bW bJ,R bW bJ (H.tagged g)->∃H',(H.join F).tagged g=H'.join F/\H'.Comp F/\R bW bJ H':=λg bW bJ hr=>⟨_,Hp.hY hF g,hc.tagged hF g,hr⟩;refine⟨by rw[hg];exact h0,h.imp ?_ (qCJ ?_ (qCJ ?_ λh=>⟨by rw[hg];exact h.1,h.2.frame hc h0⟩))⟩
  ·rintro⟨d,e,h⟩;exact⟨d,hg.trans e,h.imp (λ⟨bW,bJ,es,h1,h2,h3⟩=>⟨bW,bJ,es,h1,h2,EV _ _ _ h3⟩) id⟩
  ·rintro⟨jE,h⟩;refine⟨by rw[hg];exact jE,λs Hs t w ha=>?_⟩;refine(h s Hs t w (ha.left hc h0)).imp (λuT=>(uT.frame hc h0 ha).mono ?_) id;rintro t' bW bJ HF ⟨H',rfl,lG,hk⟩;have C4:(H'.join F).gh=H'.gh:=by rw[Hp.bP,hF,qAj]
   rw[C4];exact hk.imp (λh=>⟨⟨H',rfl,lG,h.1⟩,h.2⟩) λh=>⟨h.1,EV _ _ _ h.2⟩
  rintro⟨Ig,h⟩;refine⟨by rw[hg];exact Ig,λs Hs t w ha=>?_⟩;rw[hg]at ha ⊢;exact(h s Hs t w ha).imp (Oq.mono λt' bW bJ H' hk=>⟨hk.1,hk.2.imp (λh=>⟨h.1,EV _ _ _ h.2⟩) λh=>⟨h.1,EV _ _ _ h.2⟩⟩) id
noncomputable def Vx.prgW(i:Nat):bF:={ toProgram:=p,still:=T.stl,stillNil:=λh=>absurd h (by simp[T.stlNil]),toEnv:=T.envW i }
def YW(i k:Nat)(fr kU:Frame)(es:Array Event):Trace:=
 (ZJ i fr es).push { g:=i,fn:=fr.fn,pos:=fr.place,act:=.go k } |>.push { g:=k,fn:=kU.fn,pos:=fr.place,act:=.start }
theorem ZuW{k:Nat}{kU:Frame}:∀op∈YW 0 k fr kU es,op.g=0\/op.act.touch? = none:=by
 intro op bH;rcases Array.mem_push.1 bH with bH | rfl
 ·rcases Array.mem_push.1 bH with bH | rfl
  ·exact .inl (GP op bH)
  exact .inl rfl
 exact .inr rfl
def WQ(K:Frame->List Frame->Hp->Prop)(fr:Frame)(cs:List Frame)(H:Hp)(s:T.S)(Hs:Hp)(t:Trace)(w:World):Prop:=
 ∃bW bJ kU w' H' Hc s' eG es,stepG p true (bT fr cs) w=.spawn (bT bW bJ) (bT kU []) w' es/\gN T 0 s Hs t w H (YW 0 (T.next s) fr kU es) s' eG w' /\
  g9 0 Hs w H (t++YW 0 (T.next s) fr kU es) eG w' H'/\g9 (T.next s) Hs w H (t++YW 0 (T.next s) fr kU es) eG w' Hc/\H'.Dis Hc /\
  (∀j,T.tag s' j=if j=0 then H'.gh else if j=T.next s then Hc.gh else T.tag s j)/\T.next s'=T.next s+1/\T.more s'<T.more s/\(T.cls s'=T.cls s/\∀j,j<T.next s->T.Blk s j->T.Blk s' j) /\
  K bW bJ H'/\T.act H'.gh/\T.act Hc.gh/\Reach (T.prgW (T.next s)) Vf kU [] Hc
theorem WQ.frame{K:Frame->List Frame->Hp->Prop}{H F:Hp}{s:T.S}{Hs:Hp}(hc:H.Comp F)(h0:H.gh≠[])(ha:dH T 0 (H.join F) s Hs t w)
  (h:WQ T K fr cs H s Hs t w):WQ T (λfr cs HF=>∃H',HF=H'.join F/\H'.Comp F/\K fr cs H') fr cs (H.join F) s Hs t w:=by
 obtain⟨bW,bJ,kU,w',H',Hc,s',eG,es,h1,h2,h3,h4,h5,h6,h7,h8,h9,QR,JB⟩:=h;have hF:F.le w:=ha.le.right hc;have d1:H.Dis F:=hc.mem;have d2:Hs.Dis F:=(ha.dis.right hc).symm;have e:(H'.join F).gh=H'.gh:=by rw[Hp.bP,OM hc h0,qAj]
 refine⟨bW,bJ,kU,w',H'.join F,Hc,s',eG,es,h1,h2.frame,h3.frame hc ZuW ha h2,⟨h4.le,h4.dis,?_,h4.perm⟩,h5.join (h4.k9.dis hF d1 d2).symm,?_,h7,h8,h9,⟨H',rfl,h3.comp hc h0 ha,QR⟩,?_⟩
 ·exact λb x hx=>(h4.k9 b x hx).imp id λ⟨y,hy,he⟩=>⟨y,hy.imp Hp.aK id,he⟩
 ·rw[e];exact h6
 rw[e];exact JB
noncomputable def Vx.envM:Env where
 sh:=λR fr cs H=>H.gh≠[]/\∀s Hs t w,dH T 0 H s Hs t w ->
  Oq T 0 (λt' bW bJ H'=>R bW bJ H'/\T.act H'.gh) fr cs H s Hs t w\/WT T 0 fr cs s w\/WQ T R fr cs H s Hs t w\/OY T R fr cs H
 shMono:=by rintro R R' hr fr cs H ⟨h0,h⟩;refine⟨h0,λs Hs t w ha=>(h s Hs t w ha).imp (Oq.mono λt fr cs H h=>⟨hr _ _ _ h.1,h.2⟩) (qCJ id (qCJ ?_ (OY.mono hr)))⟩;rintro⟨bW,bJ,kU,w',H',Hc,s',eG,es,h1,h2,h3,h4,h5,h6,h7,h8,h9,QR,JB⟩;exact⟨bW,bJ,kU,w',H',Hc,s',eG,es,h1,h2,h3,h4,h5,h6,h7,h8,h9,hr _ _ _ QR,JB⟩
 shFrame:=by rintro R fr cs H F hc ⟨h0,h⟩;refine⟨by rw[Hp.bP];simp[h0],λs Hs t w ha=>?_⟩;refine(h s Hs t w (ha.left hc h0)).imp (λhg=>(hg.frame hc h0 ha).mono ?_) (qCJ id (qCJ (λhs=>hs.frame T hc h0 ha) (OY.frame hc h0)));rintro t' bW bJ HF ⟨H',rfl,lG,h1,h2⟩;exact⟨⟨H',rfl,lG,h1⟩,by rw[Hp.bP,OM hc h0,qAj];exact h2⟩
noncomputable def Vx.prgM:bF:={ toProgram:=p,still:=λ_=>false,stillNil:=λ_ _=>rfl,toEnv:=T.envM }
def RL(i:Nat)(Hs:Hp)(op:MemOp):Prop:=op.g=i/\((∃loc wr,op.act=.access ⟨loc,wr,false⟩/\∀b,loc.gP=some b->Hs b=none)\/(∃f,op.act=.mark (.extern f))\/op.act=.mark .noRoom)
def KX(i:Nat)(op:MemOp):Prop:=op.g=i/\(op.act=.mark .disable\/op.act=.mark .enable)
structure Vx.Sound:Prop where
 own:∀{s Hs t},T.Inv s Hs t->∀b x,Hs b=some x->x.2=true
 zO:∀{s Hs t i u},T.Inv s Hs t->i<T.next s->T.act (T.tag s i)->(∀op∈u,RL i Hs op)->T.Inv s Hs (t++u)
 mute:∀{s Hs t i u},T.Inv s Hs t->i<T.next s->T.tag s i=T.left->(∀op∈u,KX i op)->T.Inv s Hs (t++u)
 live:∀{s Hs t} (D:Nat->Option Bool),T.Inv s Hs t->(∀j,j<T.next s->T.tag s j≠T.left->T.Blk s j\/(T.cls s=false/\∃d,D j=some d/\T.can d (T.tag s j)))->(∀j k,D j=some true->D k=some false->False)->False
 chan:∀{s Hs t},T.Inv s Hs t->∃n,Hs T.ch=some (.chan 0 #[] (T.cls s) n n false,true)
 hears:∀{s Hs t j d},T.Inv s Hs t->j<T.next s->T.can d (T.tag s j)->Deaf t j=0
 FL:∀{s Hs t j},T.Inv s Hs t->j<T.next s->T.can false (T.tag s j)->j≠0
 FG:∀{s Hs t j},T.Inv s Hs t->j<T.next s->T.can true (T.tag s j)->T.cls s=false
 pD:∀{d g},T.can d g->T.act g
 FK:∀{s Hs t j},T.Inv s Hs t->j<T.next s->T.can true (T.tag s j)->j=0
 meet:∀{s Hs t b n g' v Hm},T.Inv s Hs t->0<T.next s->b<T.next s->b≠0->T.cls s=false->Hs T.ch=some (.chan 0 #[] false n n false,true)->T.can true (T.tag s 0)->T.can false (T.tag s b)->T.puts (T.tag s 0) g' v Hm ->
  ∃s' gb,T.gets (T.tag s b) gb v Hm/\(∀j,T.tag s' j=if j=0 then g' else if j=b then gb else T.tag s j)/\T.next s'=T.next s/\T.more s'<T.more s/\T.cls s'=false/\(∀j,T.Blk s j->T.Blk s' j) /\
   ∀u:Trace,(∀op∈u,op.g=0\/op.g=b)->(∀op∈u,op.act=.send T.ch n\/op.act=.recv T.ch n 0\/op.act=.sendDone T.ch n\/op.act=.recvDone T.ch n)->T.Inv s' (Hs.ins T.ch (.chan 0 #[] false (n+1) (n+1) false)) (t++u)
 FI:∀{s Hs t b},T.Inv s Hs t->b<T.next s->T.cls s=true->T.can false (T.tag s b) ->
  ∃s',(∀j,T.tag s' j=if j=b then T.shut (T.tag s b)else T.tag s j)/\T.next s'=T.next s/\T.more s'<=T.more s/\T.cls s'=true/\(∀j,T.Blk s j->T.Blk s' j)/\∀u:Trace,(∀op∈u,op.g=b/\op.act=.recvClosed T.ch)->T.Inv s' Hs (t++u)
 actLeft:¬ T.act T.left
 hshLeft:¬ T.hsh T.left
 tG:∀d,¬ T.act (lv d)
 m9:∀g,T.act g->¬ T.hsh g
 AX:∀d,¬ T.hsh (lv d)
 FF:∀d,T.stl (lv d)=true
 zI:∀g,T.hsh g->T.stl g=true
end
