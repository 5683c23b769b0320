import Derived.Test.YtlhomfgcibjccaaGreatDoorP01
set_option linter.all false
namespace Go.LL
section
variable{ρ ρ':Operand->Value}{f:FuncId}{xO:Op}{ps:Array (Nat×Operand)}{t e:TypeId}{i ie:TypeInfo}{z:Value}{qs:List (Nat×Nat×Operand)}
theorem Zii{G:Prop} (h:G:=by show execOp a.eval (aP o.op o.type)=_;refine ZmJ (o:=aP o.op o.type) (λx NU=>?_) hs;have:=qAe.1 h1 x NU;obtain⟨v,hv⟩:=qBi.1 this;rw[hv];exact r.get (hx x NU) hv):G:=h
theorem Ky{xs:Array Operand}(h:∀x∈xs,ρ x=ρ' x):xs.map ρ=xs.map ρ':=Array.map_congr_left h
theorem Zno{xs:Array (Nat×Operand)}(h:∀x∈(xs.toList.map (·.2)).toArray,ρ x=ρ' x):(xs.map λ(i,x)=>(i,ρ x))=xs.map λ(i,x)=>(i,ρ' x):=by refine Array.map_congr_left λp hp=>?_;have:=h p.2 (by simp only[qAb,qAX];exact⟨p,qAt.2 hp,rfl⟩);simp[this]
theorem X0{x:Option Operand}(h:∀y∈x.toArray,ρ y=ρ' y):x.map ρ=x.map ρ':=by
 cases x with
 | none=>rfl
 | some y=>simp[h y (by simp)]
theorem Qv{c:Call}(t:TypeId)(h:∀x∈c.operands,ρ x=ρ' x):resolve ρ c t=resolve ρ' c t:=by
 obtain⟨Q3,args,ts⟩:=c;have ha:args.map ρ=args.map ρ':=Ky λx hx=>h x (by simp[Call.operands,hx]);unfold resolve;cases Q3 with
 | builtin b=>simp only[ha]
 | invoke r n=>simp only[ha,h r (by simp[Call.operands])]
 | value f=>simp only[ha,h f (by simp[Call.operands])]
theorem ZmJ{o:Oper}(h:∀x∈o.op.operands,ρ x=ρ' x)(hs:∀cs b,o.op≠.select cs b):execOp ρ o=execOp ρ' o:=by
 obtain⟨dst,op,ty,pos,after,guard⟩:=o;unfold execOp;simp only at h ⊢;cases op with
 | build t ps=>simp only[Zno (xs:=ps) (by simpa[Op.operands]using h)]
 | buildSlice t n ps=>simp only[Zno (xs:=ps) (by simpa[Op.operands]using h)]
 | makeFunc fn f c=>simp only[Ky (xs:=f) (λx hx=>h x (by simp[Op.operands,hx])),Ky (xs:=c) (λx hx=>h x (by simp[Op.operands,hx]))]
 | makeMap t r=>simp only[X0 (x:=r) (λy hy=>h y (by simpa[Op.operands]using hy))]
 | slice t x l hi mx=>
  simp only[h x (by simp[Op.operands]),X0 (x:=l) (λy hy=>h y (by simp only[Op.operands,qAB];exact .inl (.inl (.inr hy)))),
   X0 (x:=hi) (λy hy=>h y (by simp only[Op.operands,qAB];exact .inl (.inr hy))),X0 (x:=mx) (λy hy=>h y (by simp only[Op.operands,qAB];exact .inr hy))]
 | call c=>simp only[Qv _ h]
 | go c=>simp only[Qv _ h]
 | defer c=>simp only[Qv _ h]
 | select cs b=>exact absurd rfl (hs cs b)
 | _=>simp_all[Op.operands]
section sound
variable{P:bF}{nr:Bool}{L:List (Nat×Nat)}{m:Nat}{o:Oper}{next:aN->Hp->Prop}{σ:aN}{H Ha:Hp}{a:Act}{op:bC}
theorem eJ.gets{P:PQ}{L:List (Nat×Nat)}{m:Nat}{σ:aN}{H:Hp}{a:Act}{Ha:Hp}(r:eJ P L m σ H a Ha):∀{xs:List Operand} {vs:List Value},(∀x∈xs,nl L x=true)->σ.gets xs=some vs->xs.map a.eval=vs
 | [],vs,_,h=>by simpa[aN.gets]using h
 | x :: xs,vs,hn,h=>by
  simp only[aN.gets]at h;cases h1:σ.get x with
  | none=>simp[h1]at h
  | some v=>
   cases h2:σ.gets xs with
   | none=>simp[h1,h2]at h
   | some ws=>
    simp[h1,h2]at h;subst h;simp[r.get (hn x (by simp)) h1,r.gets (λy hy=>hn y (by simp[hy])) h2]
theorem Zc.rel{vs:Array Value}{Post:Value->Hp->Prop}(h:Zc P f vs H Post)(r:eJ P L m σ H a Ha):Zc P f vs Ha (λv DF=>∃H',eJ P L m σ H' a DF/\Post v H'):=by obtain⟨ρ,K,e1,e2,e3,e4,e5,e6⟩:=r.mem;rw[e1];refine(h.frame e2).mono ?_;rintro v HF ⟨H',rfl,hc,hp⟩;exact⟨H',⟨r.size,r.defers,ρ,K,rfl,hc,e3,e4,e5,e6⟩,hp⟩
theorem Zpt{args:Array Operand}{ts:Array TypeId}{fn:Func}(ho:o.op=.call { callee:=.value (.func f),args:=args,argTypes:=ts })(hf:P.funcs[f]? = some fn)(hb:fn.body.isSome=true)(IA:(fn.name == "runtime.NumGoroutine")=false)
  (hx:∀x∈args.toList,nl L x=true) (hd:iP L m o.dst=true) (h:(bC.call f args.toList).w P o.dst next σ H) (r:eJ P L m σ H a Ha):lK P nr o a (Nx P L m next) Ha:=by
 obtain⟨vs,h1,h2⟩:=h;have e1:=r.gets hx h1;have e2:args.map a.eval=vs.toArray:=by obtain⟨args⟩:=args;simp only[qBl];simp only at e1;rw[e1]
 refine .inl ?_;have:execOp a.eval o=callFunc f (vs.toArray++#[]):=by simp[execOp,ho,resolve,invoke,e2,Act.eval,Deferred.ofValue]
 rw[this];simp only[callFunc,Zh,VZ,hf,IA,iN,qAk];have mC:fn.body.isNone=false:=by simpa using hb
 simp only[mC,iN,qAk,Zj];refine .inr ?_;show Zc P f (vs.toArray++#[]) Ha _;rw[qAh];refine(h2.rel r).mono ?_;rintro v DF ⟨H',r',hn⟩;exact⟨_,_,r'.set hd v,hn⟩
theorem UH(bH:o.op=xO)(hs:∀cs b,xO≠.select cs b)(hx:∀x∈xO.operands,nl L x=true)(hd:iP L m o.dst=true)(h:(bC.raw xO o.type).w P o.dst next σ H)(r:eJ P L m σ H a Ha):lK P nr o a (Nx P L m next) Ha:=by
 subst bH;obtain⟨h1,h2⟩:=h;have e:execOp a.eval o=execOp (λx=>(σ.get x).getD undef) (aP o.op o.type):=by exact Zii
 obtain⟨ρ,K,e1,e2,e3,e4,e5,e6⟩:=r.mem;rcases h2 with h2 | h2;case inr=>
  refine .inr ?_
  rw[e,show Va P o=Va P (aP o.op o.type)from rfl,e1]
  refine(h2.any.frame e2).mono ?_
  rintro v HF ⟨H',rfl,hc,hn⟩
  have r':eJ P L m σ H' a (H'.join K):=⟨r.size,r.defers,ρ,K,rfl,hc,e3,e4,e5,e6⟩
  exact⟨_,_,r'.set hd v,hn⟩
 refine .inl ?_;rw[e,e1];refine Vh ?_ (Be h2 e2);rintro n g HF ⟨H',rfl,hc,hg | hn⟩
 ·exact .inl hg
 have r':eJ P L m σ H' a (H'.join K):=⟨r.size,r.defers,ρ,K,rfl,hc,e3,e4,e5,e6⟩;refine .inr ?_;cases n with
 | value v=>exact⟨_,_,r'.set hd v,hn⟩
 | skip=>exact⟨_,_,r'.set hd undef,hn⟩
 | enter f args=>
  refine(Zc.rel hn r').mono ?_;rintro v DF ⟨nA,En,hn⟩;exact⟨_,_,En.set hd v,hn⟩
 | round l f tmps aB bd=>
  refine(UY.frame hn hc).mono ?_;rintro v HF ⟨nA,rfl,lG,hn⟩;have En:eJ P L m σ nA a (nA.join K):=⟨r.size,r.defers,ρ,K,rfl,lG,e3,e4,e5,e6⟩;exact⟨_,_,En.set hd v,hn⟩
 | defer d=>
  obtain⟨_,hm,hn⟩:=hn;refine⟨_,_,eJ.set (a:={ a with defers:=d :: a.defers }) (σ:={ σ with cX:=d :: σ.cX }) ⟨r.size,?_,ρ,K,rfl,hc,e3,e4,e5,e6.plain hm⟩ hd undef,hn⟩;simp only[OA,hm,iN,qAk];rw[r.defers]
 | _=>exact hn.elim
theorem Zpg(xW:nr=true)(bH:o.op=xO)(hs:∀cs b,xO≠.select cs b)(hx:∀x∈xO.operands,nl L x=true)(hd:iP L m o.dst=true)(h:(bC.jA xO o.type).w P o.dst next σ H)(r:eJ P L m σ H a Ha):lK P nr o a (Nx P L m next) Ha:=by
 subst bH;subst xW;obtain⟨h1,h2⟩:=h;have e:execOp a.eval o=execOp (λx=>(σ.get x).getD undef) (aP o.op o.type):=by exact Zii
 obtain⟨ρ,K,e1,e2,e3,e4,e5,e6⟩:=r.mem;refine .inr ?_;rw[e,show Va P o=Va P (aP o.op o.type)from rfl,e1];refine(h2.frame e2).mono ?_;rintro v HF ⟨H',rfl,hc,hn⟩;have r':eJ P L m σ H' a (H'.join K):=⟨r.size,r.defers,ρ,K,rfl,hc,e3,e4,e5,e6⟩;exact⟨_,_,r'.set hd v,hn⟩
theorem Zmo:∀(vs:List Value) (off k:Nat) (z:List Value),off+k+vs.length<=z.length ->
  ((vs.zipIdx k).foldl (λcs (c,j)=>cs.setIfInBounds (off+j) c) z.toArray)=(ZH z (off+k) vs).toArray
 | [],off,k,z,_=>by simp[ZH]
 | v :: vs,off,k,z,h=>by
  simp only[qAO]at h;simp only[List.zipIdx_cons,qBF,List.setIfInBounds_toArray];have:=Zmo vs off (k+1) (z.set (off+k) v) (by simp;omega);rw[this];congr 1;unfold ZH;have e1:(z.set (off+k) v).take (off+(k+1))=z.take (off+k)++[v]:=by rw[<-qCg,qAd (by simp;omega),qCO O];simp
  have e2:(z.set (off+k) v).drop (off+(k+1)+vs.length)=z.drop (off+k+(vs.length+1)):=by rw[List.drop_set_of_lt O];congr 1;omega
  rw[e1,e2];simp
theorem X5{place:Nat->Option (Nat×Nat)}(r:eJ P L m σ H a Ha):∀{ps:List (Nat×Operand)} {qs:List (Nat×Nat×Operand)} {z cs:List Value},UE place ps=some qs->(∀p∈ps,nl L p.2=true)->dU σ qs z=some cs ->
  Instr.fill place z.toArray (ps.map λp=>(p.1,a.eval p.2))=some cs.toArray
 | [],qs,z,cs,ht,_,hb=>by simp only[UE,iF]at ht;subst ht;simp only[dU,iF]at hb;subst hb;rfl
 | (i,x) :: ps,qs,z,cs,ht,hn,hb=>by
  simp only[UE]at ht;split at ht
  ·rename_i off sz qs' h1 h2;simp only[iF]at ht;subst ht;simp only[dU]at hb;split at hb
   ·rename_i v hv;have e:=r.get (hn (i,x) (by simp)) hv;simp only[qBo,Instr.fill,h1,e];cases hc:(Nat.beq v.cells.size sz && Nat.ble (off+sz) z.length)with
    | false=>rw[hc]at hb;simp at hb
    | true=>
     rw[hc]at hb;simp only[BY]at hc;have c1:v.cells.size=sz:=qAQ hc.1;have c2:off+sz<=z.length:=qBE hc.2;have:(decide (v.cells.size≠sz) || decide (off+v.cells.size > z.toArray.size))=false:=by simp[c1];omega
     rw[this];simp only[iN,qAk];have hf:v.cells.zipIdx.foldl (λcs (c,j)=>cs.setIfInBounds (off+j) c) z.toArray=(ZH z off v.cells.toList).toArray:=by have:=Zmo v.cells.toList off 0 z (by simp only[qBN];omega);rw[qBY]at this;rw[<-this,<-qCq,Array.toList_zipIdx]
     rw[hf];exact X5 r h2 (λp hp=>hn p (by simp[hp])) hb
   simp at hb
  simp at ht
theorem Ma:(ps.map λ(i,x)=>(i,a.eval x)).toList=ps.toList.map λp=>(p.1,a.eval p.2):=by simp
theorem ZtX{fs:List Field}(h:∀f∈fs,(P.info? f.type).isSome=true)(Q:List (Nat×Nat)->Bool->Hp->Prop)(g:Bool)(H:Hp)
  (hq:∀ps:List (Nat×Nat),(∀i:Nat,ps[i]? = match fs[i]? with | some (f:Field)=>(match P.info? f.type with | some i=>some (f.offset,i.size) | none=>none) | none=>none)->Q ps g H) :
  cD P (fs.mapM λ(f:Field)=>do pure (f.offset,<-sizeOf f.type)) Q g H:=by
 induction fs generalizing Q with
 | nil=>exact hq [] (by simp)
 | cons f fs ih=>
  obtain⟨i,hi⟩:=qBi.1 (h f (by simp));rw[List.mapM_cons,Zh,Zh,Z6 hi];simp only[Zj];rw[Zh];refine ih (λf hf=>h f (by simp[hf])) _ λps yX=>?_;simp only[Zj];refine hq _ λj=>?_;cases j with
  | zero=>simp[hi]
  | succ j=>simp[yX j]
theorem Zpw{fs:Array Field}(ho:o.op=.build t ps)(hu:P.underlying t=some (.struct fs))(hi:P.info? t=some i)(hz:i.zero=some z)(hk:Zl3 P fs=true)
  (hq:UE (Bv P fs) ps.toList=some qs) (hx:(ps.all λp=>nl L p.2)=true) (hd:iP L m o.dst=true) (h:(bC.build z.cells.toList qs).w P o.dst next σ H) (r:eJ P L m σ H a Ha):lK P nr o a (Nx P L m next) Ha:=by
 obtain⟨cs,h1,h2⟩:=h;refine VO (s:=Instr.build t (ps.map λ(i,x)=>(i,a.eval x))) (by simp[execOp,ho]) ?_;simp only[Instr.build,Zh,UC hi hz,Zy hu];obtain⟨fs⟩:=fs;rw[List.mapM_toArray,map_eq_pure_bind,Zh];refine ZtX (λf hf=>qAe.1 hk f (by simpa using hf)) _ _ _ λls rH=>?_;simp only[Zj];have l8:(λx=>ls.toArray[x]?)=Bv P ⟨fs⟩:=by
  funext x;simp only[qAD,rH x,Bv];cases fs[x]? with
  | none=>rfl
  | some f=>cases P.info? f.type<;>rfl
 have kD:=X5 r hq (λp hp=>qAe.1 hx p (qAt.1 hp)) h1;rw[<-Ma,<-l8]at kD;simp only[qBJ]at kD;rw[kD];exact .inr ⟨_,_,r.set hd _,h2⟩
theorem Zpv{n:Nat}(ho:o.op=.build t ps)(hu:P.underlying t=some (.array n e))(hi:P.info? t=some i)(hz:i.zero=some z)(he:P.info? e=some ie)
  (hq:UE (λk=>some (k * ie.size,ie.size)) ps.toList=some qs) (hx:(ps.all λp=>nl L p.2)=true) (hd:iP L m o.dst=true) (h:(bC.build z.cells.toList qs).w P o.dst next σ H) (r:eJ P L m σ H a Ha):lK P nr o a (Nx P L m next) Ha:=by
 obtain⟨cs,h1,h2⟩:=h;refine VO (s:=Instr.build t (ps.map λ(i,x)=>(i,a.eval x))) (by simp[execOp,ho]) ?_;simp only[Instr.build,Zh,UC hi hz,Zy hu,Z6 he];have kD:=X5 r hq (λp hp=>qAe.1 hx p (qAt.1 hp)) h1;rw[<-Ma]at kD;simp only[qBJ]at kD;rw[kD];exact .inr ⟨_,_,r.set hd _,h2⟩
theorem Zpu{len:Nat}(ho:o.op=.buildSlice t len ps)(hu:P.underlying t=some (.slice e))(he:P.info? e=some ie)(hz:ie.zero=some z)(kK:len * ie.size<=2 ^ 24)(dG:¬ len * ie.size=0)
  (hq:UE (λk=>some (k * ie.size,ie.size)) ps.toList=some qs) (hx:(ps.all λp=>nl L p.2)=true) (hd:iP L m o.dst=true)
  (h:(bC.bL e len ((Array.range (len * ie.size)).map (z.cells[· % z.cells.size]!)).toList qs).w P o.dst next σ H) (r:eJ P L m σ H a Ha):lK P nr o a (Nx P L m next) Ha:=by
 obtain⟨hs,cs,h1,h2⟩:=h;refine VO (s:=Instr.buildSlice t len (ps.map λ(i,x)=>(i,a.eval x))) (by simp[execOp,ho]) ?_;simp only[Instr.buildSlice,Zh,Zy hu,Z6 he];have:¬ (len * ie.size > 2 ^ 24):=O;simp only[this,qAk,dG,Zh,UC he hz,Zj];have kD:=X5 r hq (λp hp=>qAe.1 hx p (qAt.1 hp)) h1;rw[<-Ma]at kD;simp only[qBJ]at kD;rw[kD];simp only[newRow,Zh,newObj,Zj];refine⟨r.aL hs,λb hb=>?_⟩;obtain⟨ρ,K,e1,e2,e3,e4,e5,e6⟩:=r.mem;rw[e1]at hb;obtain⟨gI,kS⟩:=Hp.dR.1 hb;refine .inr ⟨_,_,eJ.set ?_ hd _,h2 b gI⟩;exact⟨r.size,r.defers,ρ,K,by rw[e1,<-Hp.jY],e2.hZ _ kS,e3,e4,e5,e6⟩
end sound
end
section
variable{ty:TypeId}{d:Option Nat}
section sound
variable{P:bF}{nr:Bool}{L:List (Nat×Nat)}{m:Nat}{o:Oper}{next:aN->Hp->Prop}{σ:aN}{H Ha:Hp}{a:Act}{op:bC}
theorem YB{α:Type}{b:Bool}{x y:α}(h:(if b=true then some x else none)=some y):b=true/\x=y:=by cases b<;>simp_all
theorem Zsx{op:Op}(h:(bC.dA op ty).w P d next σ H):(bC.raw op ty).w P d next σ H:=by obtain⟨h1,v,h2,h3⟩:=h;exact⟨h1,.inl (h2 _ _ _ (.inr h3))⟩
theorem ZhT{op:Op}(h:(Oy P L op ty).w P d next σ H):(bC.raw op ty).w P d next σ H:=by
 unfold Oy at h;split at h
 ·exact Zsx h
 exact h
theorem Qg{xO:Op}(bH:o.op=xO)(hs:∀cs b,xO≠.select cs b)(ht:(if(xO.operands.all (nl L)) && iP L m o.dst then some (Oy P L xO o.type)else none)=some op)(h:op.w P o.dst next σ H)(r:eJ P L m σ H a Ha):lK P nr o a (Nx P L m next) Ha:=by obtain⟨h1,rfl⟩:=YB ht;simp only[BY]at h1;exact UH bH hs (λx hx=>qAe.1 h1.1 x hx) h1.2 (ZhT h) r
theorem Zoe(hL:sE L=true->nr=true)(ht:Yf P L m o=some op)(h:op.w P o.dst next σ H)(r:eJ P L m σ H a Ha):lK P nr o a (Nx P L m next) Ha:=by
 cases ho:o.op with
 | move x=>
  simp only[Yf,ho]at ht;obtain⟨h1,rfl⟩:=YB ht;simp only[BY]at h1;exact Zhq (.inl ho) h1.1 h1.2 h r
 | assign x=>
  simp only[Yf,ho]at ht;obtain⟨h1,rfl⟩:=YB ht;simp only[BY]at h1;exact Zhq (.inr ho) h1.1 h1.2 h r
 | pick c x y=>
  simp only[Yf,ho]at ht;obtain⟨h1,rfl⟩:=YB ht;simp only[BY]at h1;exact Zph ho h1.1.1.1 h1.1.1.2 h1.1.2 h1.2 h r
 | unOp u t x=>
  cases u with
  | not=>
   simp only[Yf,ho]at ht;obtain⟨h1,rfl⟩:=YB ht;simp only[BY]at h1;exact Zpi ho h1.1 h1.2 h r
  | _=>simp only[Yf,ho]at ht;exact Qg ho (by simp) ht h r
 | binOp b t x y ty=>
  simp only[Yf,ho]at ht;split at ht
  ·rename_i h1;simp only[BY]at h1;have PD:∀{op},Oy P L (.binOp b t x y ty) o.type=op->op.w P o.dst next σ H->lK P nr o a (Nx P L m next) Ha:=by
    rintro op rfl h;exact UH ho (by simp) (λz hz=>by
     simp only[Op.operands]at hz;simp only[qAb,qAp,qBf,qCl]at hz;rcases hz with rfl | rfl
     ·exact h1.1.1
     exact h1.1.2) h1.2 (ZhT h) r
   split at ht
   ·split at ht
    ·simp only[iF]at ht;subst ht;exact Zpx ho h1.1.1 h1.1.2 h1.2 h r
    exact PD (dO ht) h
   exact PD (dO ht) h
  simp at ht
 | extract x i=>
  simp only[Yf,ho]at ht;obtain⟨h1,rfl⟩:=YB ht;simp only[BY]at h1;exact Zps ho h1.1 h1.2 h r
 | field t x f=>
  simp only[Yf,ho]at ht;split at ht
  ·rename_i h1;simp only[BY]at h1;split at ht
   ·rename_i off ft sz hf;split at ht
    ·rename_i n hn;simp only[iF]at ht;subst ht;exact Zpr ho hf hn h1.1 h1.2 h r
    simp at ht
   simp at ht
  simp at ht
 | alloc t=>
  simp only[Yf,ho]at ht;split at ht
  ·rename_i d hd;split at ht
   ·rename_i hL;split at ht
    ·rename_i i hi;split at ht
     ·rename_i z hz;split at ht
      ·rename_i hm;simp only[iF]at ht;subst ht;exact Zpj ho hd (by simpa using hL) hm hi hz h r
      simp at ht
     simp at ht
    simp at ht
   obtain⟨h1,rfl⟩:=YB ht;exact UH ho (by simp) (λz hz=>by simp[Op.operands]at hz) h1 h r
  simp at ht
 | box t x=>
  simp only[Yf,ho]at ht;split at ht
  ·rename_i d hd;split at ht
   ·rename_i hL;split at ht
    ·rename_i h1;simp only[BY,qAK]at h1;simp only[iF]at ht;subst ht;exact Zpp ho hd (by simpa using hL) h1.2 h1.1 h r
    simp at ht
   obtain⟨h1,rfl⟩:=YB ht;simp only[BY]at h1;exact UH ho (by simp) (λz hz=>by simp[Op.operands]at hz;rw[hz];exact h1.1) h1.2 h r
  simp at ht
 | fieldAddr t x f=>
  simp only[Yf,ho]at ht;split at ht
  ·rename_i off ft sz hf;split at ht
   ·simp at ht
   rename_i hz;have CW:sz≠0:=by simpa using hz
   split at ht
   ·rename_i s;split at ht
    ·rename_i d hs;obtain⟨h1,rfl⟩:=YB ht;simp only[BY]at h1;exact Zpn ho hf CW hs h1.1 h r
    rename_i hs;obtain⟨h1,rfl⟩:=YB ht;exact Zhs ho hf CW (by simp[nl,hs]) h1 h r
   rename_i hx;obtain⟨h1,rfl⟩:=YB ht;refine Zhs ho hf CW ?_ h1 h r;cases x with
   | tmp s=>exact absurd rfl (hx s)
   | _=>rfl
  simp at ht
 | indexAddr t x i=>
  simp only[Yf,ho]at ht;split at ht
  ·rename_i hi;split at ht
   ·rename_i len e s hu;split at ht
    ·rename_i d ie hs he;obtain⟨h1,rfl⟩:=YB ht;simp only[BY]at h1;exact Zpm ho hu he hs hi h1.1 h r
    obtain⟨h1,rfl⟩:=YB ht;simp only[BY]at h1;exact UH ho (by simp) (λz hz=>by
     simp only[Op.operands]at hz;simp only[qAb,qAp,qBf,qCl]at hz;rcases hz with rfl | rfl
     ·exact h1.2
     exact hi) h1.1 h r
   ·rename_i e hu;split at ht
    ·rename_i ie he;obtain⟨h1,rfl⟩:=YB ht;simp only[BY]at h1;exact Zpq ho hu he h1.1 hi h1.2 h r
    simp at ht
   simp at ht
  simp at ht
 | load t x=>
  simp only[Yf,ho]at ht;split at ht
  ·rename_i hn;obtain⟨h1,rfl⟩:=YB ht;simp only[BY]at h1;exact Zpg (hL hn) ho (by simp) (λz hz=>by simp only[Op.operands,qAb,DO]at hz;rw[hz];exact h1.1) h1.2 h r
  split at ht
  ·rename_i hd;split at ht
   ·rename_i n hn;split at ht
    ·rename_i s;split at ht
     ·rename_i d hs;simp only[iF]at ht;subst ht;exact Zpl ho hn hs hd h r
     rename_i hs;simp only[iF]at ht;subst ht;exact Zhr ho hn (by simp[nl,hs]) hd h r
    rename_i hx;simp only[iF]at ht;subst ht;refine Zhr ho hn ?_ hd h r;cases x with
    | tmp s=>exact absurd rfl (hx s)
    | _=>rfl
   simp at ht
  simp at ht
 | store t x v=>
  simp only[Yf,ho]at ht;split at ht
  ·rename_i h1;simp only[BY,qCr]at h1;split at ht
   ·rename_i i hi;split at ht
    ·rename_i s;split at ht
     ·rename_i d hs;simp only[iF]at ht;subst ht;exact Zpk ho hi hs h1.1 h1.2 h r
     rename_i hs;simp only[iF]at ht;subst ht;exact UH ho (by simp) (λz hz=>by
      simp only[Op.operands]at hz;simp only[qAb,qAp,qBf,qCl]at hz;rcases hz with rfl | rfl
      ·simp[nl,hs]
      exact h1.1) (by rw[h1.2];rfl) h r
    rename_i hx;simp only[iF]at ht;subst ht;exact UH ho (by simp) (λz hz=>by
      simp only[Op.operands]at hz;simp only[qAb,qAp,qBf,qCl]at hz;rcases hz with rfl | rfl
      ·cases z with
       | tmp s=>exact absurd rfl (hx s)
       | _=>rfl
      exact h1.1) (by rw[h1.2];rfl) h r
   simp at ht
  simp at ht
 | call c=>
  have IY:(if((Op.call c).operands.all (nl L)) && iP L m o.dst then some (Oy P L (.call c) o.type)else none)=some op->lK P nr o a (Nx P L m next) Ha:=λht=>Qg ho (by simp) ht h r;obtain⟨Q3,args,ts⟩:=c;have rD:∀{f},Q3=.builtin f->(Op.call { callee:=Q3,args:=args,argTypes:=ts }).operands=args:=by rintro f rfl;simp[Op.operands,Call.operands]
  cases Q3 with
  | builtin b=>
   by_cases hb:b=.len
   ·subst hb;simp only[Yf,ho]at ht;split at ht
    ·rename_i x t QL iM;split at ht
     ·rename_i h1;simp only[BY]at h1;split at ht
      ·rename_i e hu;simp only[iF]at ht;subst ht;exact Zpo ho QL iM hu h1.1 h1.2 h r
      simp only[iF]at ht;subst ht;refine UH ho (by simp) (λz hz=>?_) h1.2 h r;rw[rD rfl]at hz;have:z∈args.toList:=qAt.2 hz;rw[QL]at this;simp at this;rw[this];exact h1.1
     simp at ht
    simp at ht
   refine IY ?_;cases b<;>first | exact absurd rfl hb | (simp only[Yf,ho]at ht;exact ht)
  | invoke x n=>exact IY (by simpa only[Yf,ho]using ht)
  | value x=>
   cases x with
   | func f=>
    simp only[Yf,ho]at ht;split at ht
    ·rename_i h1;simp only[BY]at h1;have dY:∀x∈args.toList,nl L x=true:=λx hx=>qAe.1 h1.1 x (qAt.1 hx);split at ht
     ·rename_i fn hf;split at ht
      ·rename_i h2;simp only[BY,qAP]at h2;simp only[iF]at ht;subst ht;exact Zpt ho hf h2.1 h2.2 dY h1.2 h r
      simp only[iF]at ht;subst ht;refine UH ho (by simp) (λz hz=>?_) h1.2 h r;simp only[Op.operands,Call.operands,qAB,qAb,DO]at hz;rcases hz with rfl | hz
      ·rfl
      exact dY z (qAt.2 hz)
     simp at ht
    simp at ht
   | _=>exact IY (by simpa only[Yf,ho]using ht)
 | build t ps=>
  simp only[Yf,ho]at ht;split at ht
  ·rename_i h1;simp only[BY]at h1;split at ht
   ·rename_i fs i hu hi;split at ht
    ·rename_i z qs hz hq;obtain⟨h2,rfl⟩:=YB ht;exact Zpw ho hu hi hz h2 hq h1.1 h1.2 h r
    simp at ht
   ·rename_i n e i hu hi;split at ht
    ·rename_i z ie hz he;split at ht
     ·rename_i qs hq;simp only[iF]at ht;subst ht;exact Zpv ho hu hi hz he hq h1.1 h1.2 h r
     simp at ht
    simp at ht
   simp at ht
  simp at ht
 | buildSlice t len ps=>
  simp only[Yf,ho]at ht;split at ht
  ·rename_i h1;simp only[BY]at h1;split at ht
   ·rename_i e hu;split at ht
    ·rename_i ie he;split at ht
     ·rename_i z qs hz hq;split at ht
      ·rename_i h2;simp only[BY,qAK,qAP,beq_eq_false_iff_ne,ne_eq]at h2;simp only[iF]at ht;subst ht;exact Zpu ho hu he hz h2.1 h2.2 hq h1.1 h1.2 h r
      simp only[iF]at ht;subst ht;refine UH ho (by simp) (λx hx=>?_) h1.2 h r;simp only[Op.operands,qAb,qAX]at hx;obtain⟨p,hp,rfl⟩:=hx;exact qAe.1 h1.1 p (qAt.1 hp)
     simp at ht
    simp at ht
   simp at ht
  simp at ht
 | select cs b=>simp[Yf,ho]at ht
 | _=>exact Qg ho (by simp) (by simpa only[Yf,ho]using ht) h r
end sound
end
section
variable{P:PQ}{L:List (Nat×Nat)}{m:Nat}{H Ha:Hp}{a:Act}
structure NI where
 g:Option (Nat×Bool)
 dst:Option Nat
 op:bC
structure aN.Le(σ₀ σ:aN):Prop where
 env:∀t v,σ₀.env t=some v->σ.env t=some v
 box:∀d cs,σ₀.box d=some cs->σ.box d=some cs
 cX:σ.cX=σ₀.cX
theorem eJ.HD{σ₀ σ:aN}(r:eJ P L m σ H a Ha)(h:σ₀.Le σ):eJ P L m σ₀ H a Ha:=by obtain⟨ρ,K,e1,e2,e3,e4,e5,e6⟩:=r.mem;exact⟨r.size,r.defers.trans h.cX,ρ,K,e1,e2,λd cs hd=>e3 d cs (h.box d cs hd),λd d' cs bJ h1 h2=>e4 d d' cs bJ (h.box _ _ h1) (h.box _ _ h2),λt v hv=>e5 t v (h.env t v hv),e6⟩
def nX(P:bF):List NI->(aN->Hp->Prop)->aN->Hp->Prop
 | [],Q,σ,H=>Q σ H
 | i :: r,Q,σ,H=>
  match i.g with
  | none=>i.op.w P i.dst (nX P r Q) σ H
  | some (t,gT)=>∃v,σ.env t=some v/\(v=.bool gT->i.op.w P i.dst (nX P r Q) σ H)/\(v≠.bool gT->nX P r Q (σ.gA i.dst) H)
def iB.then(next:aN->Hp->Prop)(Q:Ex->aN->Hp->Prop):Ex->aN->Hp->Prop
 | .normal,a,H=>next a H
 | e,a,H=>Q e a H
def iB.inBlock(id:Nat)(Q:Ex->aN->Hp->Prop):Ex->aN->Hp->Prop
 | .exit tO,a,H=>if tO=id then Q .normal a H else Q (.exit tO) a H
 | e,a,H=>Q e a H
def MY(P:Program)(L:List (Nat×Nat))(m:Nat)(aI:Array Oper)(i:Nat):Option NI:=
 match aI[i]? with
 | none=>none
 | some o=>
  match Yf P L m o with
  | none=>none
  | some op=>
   match o.guard with
   | none=>some ⟨none,o.dst,op⟩
   | some (j,gT)=>
    match (aI[j]?).bind (·.dst)with
    | none=>none
    | some t=>if nl L (.tmp t)then some ⟨some (t,gT),o.dst,op⟩else none
def Y3(P:Program)(L:List (Nat×Nat))(m:Nat)(aI:Array Oper):List Nat->Option (List NI)
 | []=>some []
 | i :: r=>match MY P L m aI i,Y3 P L m aI r with
  | some x,some xs=>some (x :: xs)
  | _,_=>none
theorem ZnO{σ:aN}(r:eJ P L m σ H a Ha){aI:Array Oper}{j t:Nat}{v:Value}{gT:Bool}(hj:(aI[j]?).bind (·.dst)=some t)(hl:nl L (.tmp t)=true)(hb:σ.env t=some v):(v=.bool gT->yielded aI a.tmps j=some gT)/\(v≠.bool gT->yielded aI a.tmps j≠some gT):=by
 have h1:a.eval (.tmp t)=v:=r.get hl hb;simp only[Act.eval,qBd]at h1;unfold yielded;rw[hj];show(_->(match a.tmps[t]? with | some (.bool b)=>some b | _=>none)=some gT)/\(_->(match a.tmps[t]? with | some (.bool b)=>some b | _=>none)≠some gT);cases h:a.tmps[t]? with
 | none=>
  rw[h]at h1;refine⟨λe=>?_,λ_=>by simp⟩;rw[<-h1]at e;simp[undef]at e
 | some u=>
  rw[h]at h1;have h1:u=v:=h1;subst h1;refine⟨λe=>by rw[e],λe=>?_⟩;split
  ·rename_i b hb;obtain rfl:=dO hb;intro hh;exact e (by rw[dO hh])
  simp
theorem XM{P:bF}{nr:Bool}{L:List (Nat×Nat)}{m:Nat}{aI:Array Oper}{Q:aN->Hp->Prop}(hL:sE L=true->nr=true):∀{l:List Nat} {ns:List NI} {σ:aN} {H Ha:Hp} {a:Act},Y3 P L m aI l=some ns->nX P ns Q σ H->eJ P L m σ H a Ha->tV P nr aI (Nx P L m Q) l a Ha
 | [],ns,σ,H,Ha,a,ht,h,r=>by simp only[Y3,iF]at ht;subst ht;exact⟨_,_,r,h⟩
 | i :: l,ns,σ,H,Ha,a,ht,h,r=>by
  simp only[Y3]at ht;split at ht
  ·rename_i x xs hx FW;simp only[iF]at ht;subst ht;simp only[MY]at hx;split at hx
   ·simp at hx
   rename_i o ho;split at hx
   ·simp at hx
   rename_i op bH;have fJ:op.w P o.dst (nX P xs Q) σ H->lK P nr o a (tV P nr aI (Nx P L m Q) l) Ha:=by
    intro hw;have key:∀a' DF,Nx P L m (nX P xs Q) a' DF->tV P nr aI (Nx P L m Q) l a' DF:=λa' DF ⟨σ',H1,r',PR⟩=>XM hL FW PR r';refine(Zoe hL bH hw r).imp (Vh ?_) (Zm.mono · λv H hv=>key _ _ hv);rintro n g H' (hg | hn)
    ·exact .inl hg
    refine .inr ?_;cases n with
    | enter f args=>exact Zc.mono hn (λv H hv=>key _ _ hv)
    | round l' f tmps aB bd=>exact UY.mono hn (λv H hv=>key _ _ hv)
    | value v=>exact key _ _ hn
    | skip=>exact key _ _ hn
    | defer d=>exact key _ _ hn
    | _=>exact hn.elim
   simp only[tV,ho];split at hx
   ·rename_i hg;simp only[iF]at hx;subst hx;have hw:Region.wanted o (yielded aI a.tmps)=true:=by simp[Region.wanted,hg]
    simp only[hw,qAM];exact fJ h
   rename_i j gT hg;split at hx
   ·simp at hx
   rename_i t ht';split at hx
   ·rename_i hl;simp only[iF]at hx;subst hx;obtain⟨b,hb,h1,h2⟩:=h;have hy:=ZnO (gT:=gT) r ht' hl hb;by_cases vU:b=.bool gT
    ·have hw:Region.wanted o (yielded aI a.tmps)=true:=by simp[Region.wanted,hg,hy.1 vU]
     simp only[hw,qAM];exact fJ (h1 vU)
    have hw:Region.wanted o (yielded aI a.tmps)=false:=by simp[Region.wanted,hg,hy.2 vU]
    simp only[hw,iN,qAk];exact XM hL FW (h2 vU) (r.gA _)
   simp at hx
  simp at ht
end
variable{k:IntKind}
theorem Zih{G:Prop} (h:G:=by
  simp only[ZT]at h;simp only[nX];split at h
  ·exact⟨_,‹_›,λ_=>bC.rR (λσ H h=>ZT.n hq h) h,λe=>absurd rfl e⟩
  ·exact⟨_,‹_›,λe=>by simp at e,λ_=>ZT.n hq h⟩
  ·exact⟨_,‹_›,λe=>by simp at e,λ_=>ZT.n hq h⟩
  exact h.elim):G:=h
def aD(H:Hp)(a:Addr)(cs:List Value):Prop:=a.spot=none/\∃o p,H a.block=some (o,p)/\∀j,j<cs.length->Obj.mH o (a.off+j)=cs[j]?
def wC(z:Int):Prop:=-9223372036854775808<=z/\z<=9223372036854775807
theorem Uk{z:Int}(h:wC z):IntKind.i64.wrap z=z:=by obtain⟨h1,h2⟩:=h;simp only[IntKind.wrap,IntKind.bits,IntKind.signed];simp;omega
def YV:IntKind->IntKind->Bool
 | .i8,.i8 | .i16,.i16 | .i32,.i32 | .i64,.i64 | .u8,.u8 | .u16,.u16 | .u32,.u32 | .u64,.u64=>true
 | _,_=>false
theorem Zum{k':IntKind}(h:YV k k'=true):k=k':=by cases k<;>cases k'<;>simp_all[YV]
def W6(op:BinOp)(k:IntKind)(m n:Int)(K:Value->Prop):Prop:=
 match op,k with
 | .add,.i64=>wC (m+n)/\K (.int .i64 (m+n))
 | .sub,.i64=>wC (m-n)/\K (.int .i64 (m-n))
 | .mul,.i64=>wC (m * n)/\K (.int .i64 (m * n))
 | .add,k=>K (.int k (k.wrap (m+n)))
 | .sub,k=>K (.int k (k.wrap (m-n)))
 | .mul,k=>K (.int k (k.wrap (m * n)))
 | .eql,_=>∀b:Bool,(b=true↔m=n)->K (.bool b)
 | .neq,_=>∀b:Bool,(b=true↔m≠n)->K (.bool b)
 | .lss,_=>∀b:Bool,(b=true↔m<n)->K (.bool b)
 | .leq,_=>∀b:Bool,(b=true↔m<=n)->K (.bool b)
 | .gtr,_=>∀b:Bool,(b=true↔m > n)->K (.bool b)
 | .geq,_=>∀b:Bool,(b=true↔m ≥ n)->K (.bool b)
 | _,_=>False
theorem Zyl{op:BinOp}{m n:Int}{K:Value->Prop}(h:W6 op k m n K):∃v,E0 op k m n=some v/\K v:=by
 cases op<;>simp only[W6]at h<;>try exact h.elim
 case add=>cases k<;>first | exact⟨_,rfl,h⟩ | (refine⟨_,rfl,?_⟩;rw[Uk h.1];exact h.2)
 case sub=>cases k<;>first | exact⟨_,rfl,h⟩ | (refine⟨_,rfl,?_⟩;rw[Uk h.1];exact h.2)
 case mul=>cases k<;>first | exact⟨_,rfl,h⟩ | (refine⟨_,rfl,?_⟩;rw[Uk h.1];exact h.2)
 all_goals exact⟨_,rfl,h _ (by simp)⟩
def Zs2(cs:List Value)(off:Nat)(K:Value->Prop):Prop:=∃v,cs[off]? = some v/\K v
def bC.m(P:bF)(op:bC)(dst:Option Nat)(next:aN->Hp->Prop)(σ:aN)(H:Hp):Prop:=
 match op with
 | .fB x=>match σ.get x with | some v=>next (σ.set dst v) H | none=>False
 | .pick c a b=>match σ.get c with
  | some (.bool true)=>match σ.get a with | some v=>next (σ.set dst v) H | none=>False
  | some (.bool false)=>match σ.get b with | some v=>next (σ.set dst v) H | none=>False
  | _=>False
 | .bQ op x y=>match σ.get x,σ.get y with
  | some (.int k m),some (.int k' n)=>match YV k k' with
   | true=>W6 op k m n λv=>next (σ.set dst v) H
   | false=>False
  | _,_=>False
 | .not x=>match σ.get x with | some (.bool true)=>next (σ.set dst (.bool false)) H | some (.bool false)=>next (σ.set dst (.bool true)) H | _=>False
 | .ext x i=>match σ.get x with
  | some (.tuple vs)=>match vs[i]? with | some v=>next (σ.set dst v) H | none=>False
  | _=>False
 | .mG off n x=>match σ.get x with
  | some (.agg cs)=>match n with
   | none=>match cs[off]? with | some v=>next (σ.set dst v) H | none=>False
   | some n=>next (σ.set dst (.agg ((cs.toList.drop off).take n).toArray)) H
  | _=>False
 | .bM off x=>match σ.get x with | some (.pointer (some a))=>next (σ.set dst (.pointer (some (a.add off)))) H | _=>False
 | .cJ eH x i=>match σ.get x,σ.get i with
  | some (.slice A ln _),some (.int _ n)=>∃a,A=some a/\(0<=n/\n<(ln:Nat))/\next (σ.set dst (.pointer (some (a.add (n.toNat * eH))))) H
  | _,_=>False
 | .ld n x=>P.still H.gh=false/\match σ.get x with
  | some (.pointer (some a))=>match n with
   | none=>∃v,aD H a [v]/\next (σ.set dst v) H
   | some n=>∃cs:List Value,cs.length=n/\aD H a cs/\next (σ.set dst (.agg cs.toArray)) H
  | _=>False
 | .len x=>match σ.get x with | some (.slice _ n _)=>next (σ.set dst (.int .i64 (Int.ofNat n))) H | _=>False
 | .bE d ts z=>P.still H.gh=false/\next (((σ.drop ts).set (some d) (.int .i64 (Int.ofNat 0))).dD d z) H
 | .cB d ts x=>P.still H.gh=false/\match σ.get x with
  | some (.agg cs)=>next (((σ.drop ts).set (some d) (.int .i64 (Int.ofNat 0))).dD d cs.toList) H
  | some v=>next (((σ.drop ts).set (some d) (.int .i64 (Int.ofNat 0))).dD d v.cells.toList) H
  | none=>False
 | .dE off t=>match σ.env t with | some (.int .i64 (.ofNat n))=>next (σ.set dst (.int .i64 (Int.ofNat (n+off)))) H | _=>False
 | .fR eH ln t i=>match σ.env t,σ.get i with
  | some (.int .i64 (.ofNat n)),some (.int _ j)=>(0<=j/\j<(ln:Nat))/\next (σ.set dst (.int .i64 (Int.ofNat (n+j.toNat * eH)))) H
  | _,_=>False
 | .jM d n t=>P.still H.gh=false/\match σ.env t,σ.box d with
  | some (.int .i64 (.ofNat off)),some cs=>match n with
   | none=>Zs2 cs off λv=>next (σ.set dst v) H
   | some n=>match Nat.ble (off+n) cs.length with
    | true=>next (σ.set dst (.agg ((cs.drop off).take n).toArray)) H
    | false=>False
  | _,_=>False
 | .sL d n t x=>P.still H.gh=false/\match σ.env t,σ.box d,σ.get x with
  | some (.int .i64 (.ofNat off)),some cs,some v=>(v.cells.size=n/\off+n<=cs.length/\(v.cells.toList.all Value.dZ)=true)/\next (σ.dD d (ZH cs off v.cells.toList)) H
  | _,_,_=>False
 | .call f args=>match σ.gets args with
  | some vs=>Zc P f vs.toArray H λv H'=>next (σ.set dst v) H'
  | none=>False
 | .build z ps=>match dU σ ps z with | some cs=>next (σ.set dst (.agg cs.toArray)) H | none=>False
 | .bL e ln z ps=>P.still H.gh=false/\match dU σ ps z with
  | some cs=>∀r,H r=none->next (σ.set dst (.slice (some ⟨r,0,none⟩) ln ln)) (H.ins r (.cells cs.toArray e))
  | none=>False
 | .raw op ty=>(op.operands.all λx=>(σ.get x).isSome)=true/\(cD P (execOp (λx=>(σ.get x).getD undef) (aP op ty)) (λn g H'=>g=true\/DA P op dst next σ n H') false H \/
   Zm P (execOp (λx=>(σ.get x).getD undef) (aP op ty)) (Va P (aP op ty)) false H λv H'=>next (σ.set dst v) H')
 | .jA op ty=>(op.operands.all λx=>(σ.get x).isSome)=true/\Zm P (execOp (λx=>(σ.get x).getD undef) (aP op ty)) (Va P (aP op ty)) true H λv H'=>next (σ.set dst v) H'
 | .dA op ty=>(op.operands.all λx=>(σ.get x).isSome)=true/\∃v,oL P (execOp (λx=>(σ.get x).getD undef) (aP op ty)) v/\next (σ.set dst v) H
theorem bC.rR{P:bF}{op:bC}{dst:Option Nat}{next nE:aN->Hp->Prop}{σ:aN}{H:Hp}(hn:∀σ H,next σ H->nE σ H)(h:op.m P dst next σ H):op.w P dst nE σ H:=by
 cases op<;>simp only[bC.m]at h<;>simp only[bC.w]
 case fB x=>split at h;exact⟨_,‹_›,hn _ _ h⟩;exact h.elim
 case pick c a b=>
  split at h
  ·split at h;exact⟨true,_,‹_›,‹_›,hn _ _ h⟩;exact h.elim
  ·split at h;exact⟨false,_,‹_›,‹_›,hn _ _ h⟩;exact h.elim
  ·exact h.elim
 case bQ op x y=>
  split at h
  ·split at h
   ·rename_i hk;obtain rfl:=Zum hk;obtain⟨v,h1,h2⟩:=Zyl h;exact⟨_,_,_,v,‹_›,‹_›,h1,hn _ _ h2⟩
   exact h.elim
  ·exact h.elim
 case not x=>split at h;exact⟨true,‹_›,hn _ _ h⟩;exact⟨false,‹_›,hn _ _ h⟩;exact h.elim
 case ext x i=>
  split at h
  ·split at h;exact⟨_,_,‹_›,‹_›,hn _ _ h⟩;exact h.elim
  ·exact h.elim
 case mG off n x=>
  split at h
  ·cases n with
   | none=>simp only at h;split at h;exact⟨_,‹_›,_,‹_›,hn _ _ h⟩;exact h.elim
   | some n=>
    rename_i cs hx;refine⟨cs,hx,?_⟩;have:cs.extract off (off+n)=((cs.toList.drop off).take n).toArray:=by apply Array.ext';simp[Array.toList_extract]
    simp only;rw[this];exact hn _ _ h
  ·exact h.elim
 case bM off x=>split at h;exact⟨_,‹_›,hn _ _ h⟩;exact h.elim
 case cJ eH x i=>
  split at h
  ·obtain⟨a,rfl,h1,h2⟩:=h;exact⟨a,_,_,_,_,‹_›,‹_›,h1.1,h1.2,hn _ _ h2⟩
  ·exact h.elim
 case ld n x=>
  obtain⟨bB,h⟩:=h
  refine⟨bB,?_⟩
  split at h
  ·cases n with
   | none=>
    obtain⟨v,⟨h1,o,p,h2,h3⟩,h4⟩:=h;exact⟨_,o,p,‹_›,h1,h2,v,by simpa using h3 0 (by simp),hn _ _ h4⟩
   | some n=>
    obtain⟨cs,h0,⟨h1,o,p,h2,h3⟩,h4⟩:=h;exact⟨_,o,p,‹_›,h1,h2,cs,h0,λj hj=>h3 j O,hn _ _ h4⟩
  ·exact h.elim
 case len x=>split at h;exact⟨_,_,_,‹_›,hn _ _ h⟩;exact h.elim
 case bE d ts z=>exact⟨h.1,hn _ _ h.2⟩
 case cB d ts x=>obtain⟨hs,h⟩:=h;refine⟨hs,?_⟩;split at h;exact⟨_,‹_›,hn _ _ (by exact h)⟩;exact⟨_,‹_›,hn _ _ (by exact h)⟩;exact h.elim
 case dE off t=>split at h;exact⟨_,‹_›,hn _ _ h⟩;exact h.elim
 case fR eH ln t i=>
  split at h
  ·exact⟨_,_,_,‹_›,‹_›,h.1.1,h.1.2,hn _ _ h.2⟩
  ·exact h.elim
 case jM d n t=>
  obtain⟨bB,h⟩:=h
  refine⟨bB,?_⟩
  split at h
  ·cases n with
   | none=>obtain⟨v,h1,h2⟩:=h;exact⟨_,_,‹_›,‹_›,v,h1,hn _ _ h2⟩
   | some n=>
    simp only at h;split at h
    ·rename_i kK;exact⟨_,_,‹_›,‹_›,qBE kK,hn _ _ h⟩
    exact h.elim
  ·exact h.elim
 case sL d n t x=>
  obtain⟨bB,h⟩:=h
  refine⟨bB,?_⟩
  split at h
  ·obtain⟨⟨h1,h2,h3⟩,h4⟩:=h;refine⟨_,_,_,‹_›,‹_›,‹_›,h1,h2,h3,?_⟩;have:=hn _ _ h4;unfold ZH at this;rw[qBN,h1]at this;exact this
  ·exact h.elim
 case call f args=>
  split at h
  ·exact⟨_,‹_›,Zc.mono h λv H hv=>hn _ _ hv⟩
  ·exact h.elim
 case build z ps=>split at h;exact⟨_,‹_›,hn _ _ h⟩;exact h.elim
 case bL e ln z ps=>obtain⟨hs,h⟩:=h;refine⟨hs,?_⟩;split at h;exact⟨_,‹_›,λr hr=>hn _ _ (h r hr)⟩;exact h.elim
 case jA op ty=>exact⟨h.1,h.2.mono λv H hv=>hn _ _ hv⟩
 case dA op ty=>obtain⟨h1,v,h2,h3⟩:=h;exact⟨h1,v,h2,hn _ _ h3⟩
 case raw op ty=>
  refine⟨h.1,h.2.imp (Vh λn g H' h=>h.imp id (DA.mono hn)) (Zm.mono · λv H hv=>hn _ _ hv)⟩
def ZT(P:bF):List NI->(aN->Hp->Prop)->aN->Hp->Prop
 | [],Q,σ,H=>Q σ H
 | ⟨none,d,op⟩ :: r,Q,σ,H=>op.m P d (ZT P r Q) σ H
 | ⟨some (t,true),d,op⟩ :: r,Q,σ,H=>match σ.env t with
  | some (.bool true)=>op.m P d (ZT P r Q) σ H
  | some (.bool false)=>ZT P r Q (σ.gA d) H
  | some (.tuple _)=>ZT P r Q (σ.gA d) H
  | _=>False
 | ⟨some (t,false),d,op⟩ :: r,Q,σ,H=>match σ.env t with
  | some (.bool false)=>op.m P d (ZT P r Q) σ H
  | some (.bool true)=>ZT P r Q (σ.gA d) H
  | some (.tuple _)=>ZT P r Q (σ.gA d) H
  | _=>False
theorem ZT.n{P:bF}{Q Q':aN->Hp->Prop}(hq:∀σ H,Q σ H->Q' σ H):∀{l:List NI} {σ:aN} {H:Hp},ZT P l Q σ H->nX P l Q' σ H
 | [],σ,H,h=>hq _ _ h
 | ⟨none,d,op⟩ :: r,σ,H,h=>bC.rR (λσ H h=>ZT.n hq h) h
 | ⟨some (t,true),d,op⟩ :: r,σ,H,h=>by exact Zih
 | ⟨some (t,false),d,op⟩ :: r,σ,H,h=>by exact Zih
