import Derived.Test.YtlhomfgcibjccaaGreatDoorP01
set_option linter.all false
namespace Go.LL
section
variable{ρ ρ':Operand->Value}{f:FuncId}{yD:Op}{ps:Array (Nat×Operand)}{t e:TypeId}{i ie:TypeInfo}{z:Value}{qs:List (Nat×Nat×Operand)}
def Zh6{G:Prop} (h:G:=by show execOp a.eval (aR o.op o.type)=_;refine Ws (o:=aR o.op o.type) (λx GZ=>?_) hs;have:=qAm.1 h1 x GZ;obtain⟨v,hv⟩:=qCj.1 this;rw[hv];exact r.get (hx x GZ) hv):G:=h
def Iw{xs:Array Operand}(h:∀x∈xs,ρ x=ρ' x):xs.map ρ=xs.map ρ':=Array.map_congr_left h
def Wn{xs:Array (Nat×Operand)}(h:∀x∈(xs.toList.map (·.2)).toArray,ρ x=ρ' x):(xs.map λ(i,x)=>(i,ρ x))=xs.map λ(i,x)=>(i,ρ' x):=by refine Array.map_congr_left λp b=>?_;have:=h p.2 (by simp only[qAv,qAB];exact⟨p,qBh.2 b,rfl⟩);simp[this]
def Bg{x:Option Operand}(h:∀y∈x.toArray,ρ y=ρ' y):x.map ρ=x.map ρ':=by
 cases x with
 | none=>rfl
 | some y=>simp[h y (by simp)]
def Lx{c:Call}(t:TypeId)(h:∀x∈c.operands,ρ x=ρ' x):resolve ρ c t=resolve ρ' c t:=by
 obtain⟨g,args,p⟩:=c;have j:args.map ρ=args.map ρ':=Iw λx l=>h x (by simp[Call.operands,l]);unfold resolve;cases g with
 | builtin b=>simp only[j]
 | invoke r n=>simp only[j,h r (by simp[Call.operands])]
 | value f=>simp only[j,h f (by simp[Call.operands])]
def Ws{o:Oper}(h:∀x∈o.op.operands,ρ x=ρ' x)(s:∀j b,o.op≠.select j b):execOp ρ o=execOp ρ' o:=by
 obtain⟨dst,op,ty,pos,after,guard⟩:=o;unfold execOp;simp only at h ⊢;cases op with
 | build t ps=>simp only[Wn (xs:=ps) (by simpa[Op.operands]using h)]
 | buildSlice t n ps=>simp only[Wn (xs:=ps) (by simpa[Op.operands]using h)]
 | makeFunc fn f c=>simp only[Iw (xs:=f) (λx p=>h x (by simp[Op.operands,p])),Iw (xs:=c) (λx p=>h x (by simp[Op.operands,p]))]
 | makeMap t r=>simp only[Bg (x:=r) (λy g=>h y (by simpa[Op.operands]using g))]
 | slice t x l q u=>
  simp only[h x (by simp[Op.operands]),Bg (x:=l) (λy g=>h y (by simp only[Op.operands,qBx];exact .inl (.inl (.inr g)))),
   Bg (x:=q) (λy g=>h y (by simp only[Op.operands,qBx];exact .inl (.inr g))),Bg (x:=u) (λy g=>h y (by simp only[Op.operands,qBx];exact .inr g))]
 | call c=>simp only[Lx _ h]
 | go c=>simp only[Lx _ h]
 | defer c=>simp only[Lx _ h]
 | select j b=>exact absurd rfl (s j b)
 | _=>simp_all[Op.operands]
section sound
variable{P:aX}{nr:Bool}{L:List (Nat×Nat)}{m:Nat}{o:Oper}{next:aM->Hp->Prop}{σ:aM}{H Ha:Hp}{a:Act}{op:bE}
def eN.gets{P:PQ}{L:List (Nat×Nat)}{m:Nat}{σ:aM}{H:Hp}{a:Act}{Ha:Hp}(r:eN P L m σ H a Ha):∀{xs:List Operand} {b:List Value},(∀x∈xs,nl L x=true)->σ.gets xs=some b->xs.map a.eval=b
 | [],b,_,h=>by simpa[aM.gets]using h
 | x :: xs,b,g,h=>by
  simp only[aM.gets]at h;cases h1:σ.get x with
  | none=>simp[h1]at h
  | some v=>
   cases c:σ.gets xs with
   | none=>simp[h1,c]at h
   | some l=>
    simp[h1,c]at h;subst h;simp[r.get (g x (by simp)) h1,r.gets (λy j=>g y (by simp[j])) c]
def Zc.rel{j:Array Value}{b:Value->Hp->Prop}(h:Zc P f j H b)(r:eN P L m σ H a Ha):Zc P f j Ha (λv g=>∃c,eN P L m σ c a g/\b v c):=by obtain⟨ρ,K,l,n,p,q,s,u⟩:=r.mem;rw[l];refine(h.frame n).mono ?_;rintro v y ⟨c,rfl,w,x⟩;exact⟨c,⟨r.size,r.defers,ρ,K,rfl,w,p,q,s,u⟩,x⟩
def Zpe{args:Array Operand}{D:Array TypeId}{fn:Func}(A:o.op=.call { callee:=.value (.func f),args:=args,argTypes:=D })(u:P.funcs[f]? = some fn)(hb:fn.body.isSome=true)(c:(fn.name == "runtime.NumGoroutine")=false)
  (B:∀x∈args.toList,nl L x=true) (s:iQ L m o.dst=true) (h:(bE.call f args.toList).w P o.dst next σ H) (r:eN P L m σ H a Ha):lO P nr o a (Nx P L m next) Ha:=by
 obtain⟨g,p,q⟩:=h;have j:=r.gets B p;have n:args.map a.eval=g.toArray:=by obtain⟨args⟩:=args;simp only[qCo];simp only at j;rw[j]
 refine .inl ?_;have:execOp a.eval o=callFunc f (g.toArray++#[]):=by simp[execOp,A,resolve,invoke,n,Act.eval,Deferred.ofValue]
 rw[this];simp only[callFunc,Zg,V0,u,c,DO,qAw];have b:fn.body.isNone=false:=by simpa using hb
 simp only[b,DO,qAw,Zj];refine .inr ?_;show Zc P f (g.toArray++#[]) Ha _;rw[qAG];refine(q.rel r).mono ?_;rintro v l ⟨E,C,y⟩;exact⟨_,_,C.set s v,y⟩
def UH(I:o.op=yD)(hs:∀R b,yD≠.select R b)(hx:∀x∈yD.operands,nl L x=true)(s:iQ L m o.dst=true)(h:(bE.raw yD o.type).w P o.dst next σ H)(r:eN P L m σ H a Ha):lO P nr o a (Nx P L m next) Ha:=by
 subst I;obtain⟨h1,y⟩:=h;have e:execOp a.eval o=execOp (λx=>(σ.get x).getD undef) (aR o.op o.type):=by exact Zh6
 obtain⟨ρ,K,M,N,C,D,E,F⟩:=r.mem;rcases y with y | y;case inr=>
  refine .inr ?_
  rw[e,show Va P o=Va P (aR o.op o.type)from rfl,M]
  refine(y.any.frame N).mono ?_
  rintro v J ⟨u,rfl,A,c⟩
  have B:eN P L m σ u a (u.join K):=⟨r.size,r.defers,ρ,K,rfl,A,C,D,E,F⟩
  exact⟨_,_,B.set s v,c⟩
 refine .inl ?_;rw[e,M];refine Vi ?_ (Aa y N);rintro n g J ⟨u,rfl,A,S | c⟩
 ·exact .inl S
 have B:eN P L m σ u a (u.join K):=⟨r.size,r.defers,ρ,K,rfl,A,C,D,E,F⟩;refine .inr ?_;cases n with
 | value v=>exact⟨_,_,B.set s v,c⟩
 | skip=>exact⟨_,_,B.set s undef,c⟩
 | enter f args=>
  refine(Zc.rel c B).mono ?_;rintro v Q ⟨p,q,c⟩;exact⟨_,_,q.set s v,c⟩
 | round l f tmps aA T=>
  refine(UX.frame c A).mono ?_;rintro v J ⟨p,rfl,G,c⟩;have q:eN P L m σ p a (p.join K):=⟨r.size,r.defers,ρ,K,rfl,G,C,D,E,F⟩;exact⟨_,_,q.set s v,c⟩
 | defer d=>
  obtain⟨_,O,c⟩:=c;refine⟨_,_,eN.set (a:={ a with defers:=d :: a.defers }) (σ:={ σ with dQ:=d :: σ.dQ }) ⟨r.size,?_,ρ,K,rfl,A,C,D,E,F.plain O⟩ s undef,c⟩;simp only[Oy,O,DO,qAw];rw[r.defers]
 | _=>exact c.elim
def Zo1(c:nr=true)(g:o.op=yD)(hs:∀n b,yD≠.select n b)(hx:∀x∈yD.operands,nl L x=true)(D:iQ L m o.dst=true)(h:(bE.jJ yD o.type).w P o.dst next σ H)(r:eN P L m σ H a Ha):lO P nr o a (Nx P L m next) Ha:=by
 subst g;subst c;obtain⟨h1,B⟩:=h;have e:execOp a.eval o=execOp (λx=>(σ.get x).getD undef) (aR o.op o.type):=by exact Zh6
 obtain⟨ρ,K,p,q,s,u,y,A⟩:=r.mem;refine .inr ?_;rw[e,show Va P o=Va P (aR o.op o.type)from rfl,p];refine(B.frame q).mono ?_;rintro v G ⟨j,rfl,C,E⟩;have F:eN P L m σ j a (j.join K):=⟨r.size,r.defers,ρ,K,rfl,C,s,u,y,A⟩;exact⟨_,_,F.set D v,E⟩
def Xn:∀(b:List Value) (off k:Nat) (z:List Value),off+k+b.length<=z.length ->
  ((b.zipIdx k).foldl (λg (c,j)=>g.setIfInBounds (off+j) c) z.toArray)=(ZG z (off+k) b).toArray
 | [],off,k,z,_=>by simp[ZG]
 | v :: b,off,k,z,h=>by
  simp only[qAs]at h;simp only[List.zipIdx_cons,qBa,List.setIfInBounds_toArray];have:=Xn b off (k+1) (z.set (off+k) v) (by simp;omega);rw[this];congr 1;unfold ZG;have l:(z.set (off+k) v).take (off+(k+1))=z.take (off+k)++[v]:=by rw[<-qDw,iN (by simp;omega),qDX O];simp
  have n:(z.set (off+k) v).drop (off+(k+1)+b.length)=z.drop (off+k+(b.length+1)):=by rw[List.drop_set_of_lt O];congr 1;omega
  rw[l,n];simp
def XH{place:Nat->Option (Nat×Nat)}(r:eN P L m σ H a Ha):∀{ps:List (Nat×Operand)} {qs:List (Nat×Nat×Operand)} {z g:List Value},UE place ps=some qs->(∀p∈ps,nl L p.2=true)->buildV σ qs z=some g ->
  Instr.fill place z.toArray (ps.map λp=>(p.1,a.eval p.2))=some g.toArray
 | [],qs,z,g,b,_,hb=>by simp only[UE,qAe]at b;subst b;simp only[buildV,qAe]at hb;subst hb;rfl
 | (i,x) :: ps,qs,z,g,b,l,hb=>by
  simp only[UE]at b;split at b
  ·rename_i off h y n q;simp only[qAe]at b;subst b;simp only[buildV]at hb;split at hb
   ·rename_i v w;have e:=r.get (l (i,x) (by simp)) w;simp only[qCq,Instr.fill,n,e];cases hc:(Nat.beq v.cells.size h && Nat.ble (off+h) z.length)with
    | false=>rw[hc]at hb;simp at hb
    | true=>
     rw[hc]at hb;simp only[qAc]at hc;have c1:v.cells.size=h:=qBN hc.1;have c2:off+h<=z.length:=qCN hc.2;have:(decide (v.cells.size≠h) || decide (off+v.cells.size > z.toArray.size))=false:=by simp[c1];omega
     rw[this];simp only[DO,qAw];have s:v.cells.zipIdx.foldl (λg (c,j)=>g.setIfInBounds (off+j) c) z.toArray=(ZG z off v.cells.toList).toArray:=by have:=Xn v.cells.toList off 0 z (by simp only[qBy];omega);rw[qCW]at this;rw[<-this,<-qDE,Array.toList_zipIdx]
     rw[s];exact XH r q (λp u=>l p (by simp[u])) hb
   simp at hb
  simp at b
def Js:(ps.map λ(i,x)=>(i,a.eval x)).toList=ps.toList.map λp=>(p.1,a.eval p.2):=by simp
def ZtH{b:List Field}(h:∀f∈b,(P.info? f.type).isSome=true)(Q:List (Nat×Nat)->Bool->Hp->Prop)(g:Bool)(H:Hp)
  (n:∀ps:List (Nat×Nat),(∀i:Nat,ps[i]? = match b[i]? with | some (f:Field)=>(match P.info? f.type with | some i=>some (f.offset,i.size) | none=>none) | none=>none)->Q ps g H) :
  bL P (b.mapM λ(f:Field)=>do pure (f.offset,<-sizeOf f.type)) Q g H:=by
 induction b generalizing Q with
 | nil=>exact n [] (by simp)
 | cons f b ih=>
  obtain⟨i,l⟩:=qCj.1 (h f (by simp));rw[List.mapM_cons,Zg,Zg,Z4 l];simp only[Zj];rw[Zg];refine ih (λf p=>h f (by simp[p])) _ λps c=>?_;simp only[Zj];refine n _ λj=>?_;cases j with
  | zero=>simp[l]
  | succ j=>simp[c j]
def Zph{c:Array Field}(A:o.op=.build t ps)(D:P.underlying t=some (.struct c))(v:P.info? t=some i)(F:i.zero=some z)(y:ZlQ P c=true)
  (C:UE (Av P c) ps.toList=some qs) (E:(ps.all λp=>nl L p.2)=true) (q:iQ L m o.dst=true) (h:(bE.build z.cells.toList qs).w P o.dst next σ H) (r:eN P L m σ H a Ha):lO P nr o a (Nx P L m next) Ha:=by
 obtain⟨G,l,n⟩:=h;refine VP (s:=Instr.build t (ps.map λ(i,x)=>(i,a.eval x))) (by simp[execOp,A]) ?_;simp only[Instr.build,Zg,UC v F,Zw D];obtain⟨c⟩:=c;rw[List.mapM_toArray,map_eq_pure_bind,Zg];refine ZtH (λf u=>qAm.1 y f (by simpa using u)) _ _ _ λls g=>?_;simp only[Zj];have j:(λx=>ls.toArray[x]?)=Av P ⟨c⟩:=by
  funext x;simp only[qAH,g x,Av];cases c[x]? with
  | none=>rfl
  | some f=>cases P.info? f.type<;>rfl
 have b:=XH r C (λp B=>qAm.1 E p (qBh.1 B)) l;rw[<-Js,<-j]at b;simp only[qCU]at b;rw[b];exact .inr ⟨_,_,r.set q _,n⟩
def Zpg{n:Nat}(u:o.op=.build t ps)(A:P.underlying t=some (.array n e))(q:P.info? t=some i)(C:i.zero=some z)(l:P.info? e=some ie)
  (y:UE (λk=>some (k * ie.size,ie.size)) ps.toList=some qs) (B:(ps.all λp=>nl L p.2)=true) (j:iQ L m o.dst=true) (h:(bE.build z.cells.toList qs).w P o.dst next σ H) (r:eN P L m σ H a Ha):lO P nr o a (Nx P L m next) Ha:=by
 obtain⟨D,c,g⟩:=h;refine VP (s:=Instr.build t (ps.map λ(i,x)=>(i,a.eval x))) (by simp[execOp,u]) ?_;simp only[Instr.build,Zg,UC q C,Zw A,Z4 l];have b:=XH r y (λp v=>qAm.1 B p (qBh.1 v)) c;rw[<-Js]at b;simp only[qCU]at b;rw[b];exact .inr ⟨_,_,r.set j _,g⟩
def Zpf{len:Nat}(G:o.op=.buildSlice t len ps)(N:P.underlying t=some (.slice e))(q:P.info? e=some ie)(R:ie.zero=some z)(F:len * ie.size<=2 ^ 24)(l:¬ len * ie.size=0)
  (J:UE (λk=>some (k * ie.size,ie.size)) ps.toList=some qs) (Q:(ps.all λp=>nl L p.2)=true) (E:iQ L m o.dst=true)
  (h:(bE.aO e len ((Array.range (len * ie.size)).map (z.cells[· % z.cells.size]!)).toList qs).w P o.dst next σ H) (r:eN P L m σ H a Ha):lO P nr o a (Nx P L m next) Ha:=by
 obtain⟨M,S,C,D⟩:=h;refine VP (s:=Instr.buildSlice t len (ps.map λ(i,x)=>(i,a.eval x))) (by simp[execOp,G]) ?_;simp only[Instr.buildSlice,Zg,Zw N,Z4 q];have:¬ (len * ie.size > 2 ^ 24):=O;simp only[this,qAw,l,Zg,UC q R,Zj];have c:=XH r J (λp I=>qAm.1 Q p (qBh.1 I)) C;rw[<-Js]at c;simp only[qCU]at c;rw[c];simp only[newRow,Zg,newObj,Zj];refine⟨r.aV M,λb hb=>?_⟩;obtain⟨ρ,K,n,u,v,y,A,B⟩:=r.mem;rw[n]at hb;obtain⟨g,j⟩:=Hp.eF.1 hb;refine .inr ⟨_,_,eN.set ?_ E _,D b g⟩;exact⟨r.size,r.defers,ρ,K,by rw[n,<-Hp.kA],u.hY _ j,v,y,A,B⟩
end sound
end
section
variable{ty:TypeId}{d:Option Nat}
section sound
variable{P:aX}{nr:Bool}{L:List (Nat×Nat)}{m:Nat}{o:Oper}{next:aM->Hp->Prop}{σ:aM}{H Ha:Hp}{a:Act}{op:bE}
def YC{α:Type}{b:Bool}{x y:α}(h:(if b=true then some x else none)=some y):b=true/\x=y:=by cases b<;>simp_all
def Zsg{op:Op}(h:(bE.bU op ty).w P d next σ H):(bE.raw op ty).w P d next σ H:=by obtain⟨b,v,c,g⟩:=h;exact⟨b,.inl (c _ _ _ (.inr g))⟩
def ZhO{op:Op}(h:(Ox P L op ty).w P d next σ H):(bE.raw op ty).w P d next σ H:=by
 unfold Ox at h;split at h
 ·exact Zsg h
 exact h
def Mo{yD:Op}(g:o.op=yD)(l:∀j b,yD≠.select j b)(n:(if(yD.operands.all (nl L)) && iQ L m o.dst then some (Ox P L yD o.type)else none)=some op)(h:op.w P o.dst next σ H)(r:eN P L m σ H a Ha):lO P nr o a (Nx P L m next) Ha:=by obtain⟨c,rfl⟩:=YC n;simp only[qAc]at c;exact UH g l (λx p=>qAm.1 c.1 x p) c.2 (ZhO h) r
def Zn0(R:tP L=true->nr=true)(g:Ye P L m o=some op)(h:op.w P o.dst next σ H)(r:eN P L m σ H a Ha):lO P nr o a (Nx P L m next) Ha:=by
 cases l:o.op with
 | move x=>
  simp only[Ye,l]at g;obtain⟨j,rfl⟩:=YC g;simp only[qAc]at j;exact Zhl (.inl l) j.1 j.2 h r
 | assign x=>
  simp only[Ye,l]at g;obtain⟨j,rfl⟩:=YC g;simp only[qAc]at j;exact Zhl (.inr l) j.1 j.2 h r
 | pick c x y=>
  simp only[Ye,l]at g;obtain⟨j,rfl⟩:=YC g;simp only[qAc]at j;exact Zo2 l j.1.1.1 j.1.1.2 j.1.2 j.2 h r
 | unOp u t x=>
  cases u with
  | not=>
   simp only[Ye,l]at g;obtain⟨j,rfl⟩:=YC g;simp only[qAc]at j;exact Zo3 l j.1 j.2 h r
  | _=>simp only[Ye,l]at g;exact Mo l (by simp) g h r
 | binOp b t x y ty=>
  simp only[Ye,l]at g;split at g
  ·rename_i j;simp only[qAc]at j;have I:∀{op},Ox P L (.binOp b t x y ty) o.type=op->op.w P o.dst next σ H->lO P nr o a (Nx P L m next) Ha:=by
    rintro op rfl h;exact UH l (by simp) (λz q=>by
     simp only[Op.operands]at q;simp only[qAv,qAq,qCf,qDz]at q;rcases q with rfl | rfl
     ·exact j.1.1
     exact j.1.2) j.2 (ZhO h) r
   split at g
   ·split at g
    ·simp only[qAe]at g;subst g;exact Zpi l j.1.1 j.1.2 j.2 h r
    exact I (iO g) h
   exact I (iO g) h
  simp at g
 | extract x i=>
  simp only[Ye,l]at g;obtain⟨j,rfl⟩:=YC g;simp only[qAc]at j;exact Zpd l j.1 j.2 h r
 | field t x f=>
  simp only[Ye,l]at g;split at g
  ·rename_i j;simp only[qAc]at j;split at g
   ·rename_i off X W N;split at g
    ·rename_i n O;simp only[qAe]at g;subst g;exact Zpc l N O j.1 j.2 h r
    simp at g
   simp at g
  simp at g
 | alloc t=>
  simp only[Ye,l]at g;split at g
  ·rename_i d K;split at g
   ·rename_i R;split at g
    ·rename_i i C;split at g
     ·rename_i z q;split at g
      ·rename_i Y;simp only[qAe]at g;subst g;exact Zo4 l K (by simpa using R) Y C q h r
      simp at g
     simp at g
    simp at g
   obtain⟨j,rfl⟩:=YC g;exact UH l (by simp) (λz q=>by simp[Op.operands]at q) j h r
  simp at g
 | box t x=>
  simp only[Ye,l]at g;split at g
  ·rename_i d K;split at g
   ·rename_i R;split at g
    ·rename_i j;simp only[qAc,qAR]at j;simp only[qAe]at g;subst g;exact Zpa l K (by simpa using R) j.2 j.1 h r
    simp at g
   obtain⟨j,rfl⟩:=YC g;simp only[qAc]at j;exact UH l (by simp) (λz q=>by simp[Op.operands]at q;rw[q];exact j.1) j.2 h r
  simp at g
 | fieldAddr t x f=>
  simp only[Ye,l]at g;split at g
  ·rename_i off X W N;split at g
   ·simp at g
   rename_i q;have Q:W≠0:=by simpa using q
   split at g
   ·rename_i s;split at g
    ·rename_i d A;obtain⟨j,rfl⟩:=YC g;simp only[qAc]at j;exact Zo8 l N Q A j.1 h r
    rename_i A;obtain⟨j,rfl⟩:=YC g;exact Zhn l N Q (by simp[nl,A]) j h r
   rename_i E;obtain⟨j,rfl⟩:=YC g;refine Zhn l N Q ?_ j h r;cases x with
   | tmp s=>exact absurd rfl (E s)
   | _=>rfl
  simp at g
 | indexAddr t x i=>
  simp only[Ye,l]at g;split at g
  ·rename_i C;split at g
   ·rename_i len e s D;split at g
    ·rename_i d ie A M;obtain⟨j,rfl⟩:=YC g;simp only[qAc]at j;exact Zo7 l D M A C j.1 h r
    obtain⟨j,rfl⟩:=YC g;simp only[qAc]at j;exact UH l (by simp) (λz q=>by
     simp only[Op.operands]at q;simp only[qAv,qAq,qCf,qDz]at q;rcases q with rfl | rfl
     ·exact j.2
     exact C) j.1 h r
   ·rename_i e D;split at g
    ·rename_i ie M;obtain⟨j,rfl⟩:=YC g;simp only[qAc]at j;exact Zpb l D M j.1 C j.2 h r
    simp at g
   simp at g
  simp at g
 | load t x=>
  simp only[Ye,l]at g;split at g
  ·rename_i O;obtain⟨j,rfl⟩:=YC g;simp only[qAc]at j;exact Zo1 (R O) l (by simp) (λz q=>by simp only[Op.operands,qAv,oR]at q;rw[q];exact j.1) j.2 h r
  split at g
  ·rename_i K;split at g
   ·rename_i n O;split at g
    ·rename_i s;split at g
     ·rename_i d A;simp only[qAe]at g;subst g;exact Zo6 l O A K h r
     rename_i A;simp only[qAe]at g;subst g;exact Zhm l O (by simp[nl,A]) K h r
    rename_i E;simp only[qAe]at g;subst g;refine Zhm l O ?_ K h r;cases x with
    | tmp s=>exact absurd rfl (E s)
    | _=>rfl
   simp at g
  simp at g
 | store t x v=>
  simp only[Ye,l]at g;split at g
  ·rename_i j;simp only[qAc,qDF]at j;split at g
   ·rename_i i C;split at g
    ·rename_i s;split at g
     ·rename_i d A;simp only[qAe]at g;subst g;exact Zo5 l C A j.1 j.2 h r
     rename_i A;simp only[qAe]at g;subst g;exact UH l (by simp) (λz q=>by
      simp only[Op.operands]at q;simp only[qAv,qAq,qCf,qDz]at q;rcases q with rfl | rfl
      ·simp[nl,A]
      exact j.1) (by rw[j.2];rfl) h r
    rename_i E;simp only[qAe]at g;subst g;exact UH l (by simp) (λz q=>by
      simp only[Op.operands]at q;simp only[qAv,qAq,qCf,qDz]at q;rcases q with rfl | rfl
      ·cases z with
       | tmp s=>exact absurd rfl (E s)
       | _=>rfl
      exact j.1) (by rw[j.2];rfl) h r
   simp at g
  simp at g
 | call c=>
  have B:(if((Op.call c).operands.all (nl L)) && iQ L m o.dst then some (Ox P L (.call c) o.type)else none)=some op->lO P nr o a (Nx P L m next) Ha:=λg=>Mo l (by simp) g h r;obtain⟨J,args,ts⟩:=c;have T:∀{f},J=.builtin f->(Op.call { callee:=J,args:=args,argTypes:=ts }).operands=args:=by rintro f rfl;simp[Op.operands,Call.operands]
  cases J with
  | builtin b=>
   by_cases hb:b=.len
   ·subst hb;simp only[Ye,l]at g;split at g
    ·rename_i x t S V;split at g
     ·rename_i j;simp only[qAc]at j;split at g
      ·rename_i e D;simp only[qAe]at g;subst g;exact Zo9 l S V D j.1 j.2 h r
      simp only[qAe]at g;subst g;refine UH l (by simp) (λz q=>?_) j.2 h r;rw[T rfl]at q;have:z∈args.toList:=qBh.2 q;rw[S]at this;simp at this;rw[this];exact j.1
     simp at g
    simp at g
   refine B ?_;cases b<;>first | exact absurd rfl hb | (simp only[Ye,l]at g;exact g)
  | invoke x n=>exact B (by simpa only[Ye,l]using g)
  | value x=>
   cases x with
   | func f=>
    simp only[Ye,l]at g;split at g
    ·rename_i j;simp only[qAc]at j;have G:∀x∈args.toList,nl L x=true:=λx E=>qAm.1 j.1 x (qBh.1 E);split at g
     ·rename_i fn N;split at g
      ·rename_i F;simp only[qAc,qBe]at F;simp only[qAe]at g;subst g;exact Zpe l N F.1 F.2 G j.2 h r
      simp only[qAe]at g;subst g;refine UH l (by simp) (λz q=>?_) j.2 h r;simp only[Op.operands,Call.operands,qBx,qAv,oR]at q;rcases q with rfl | q
      ·rfl
      exact G z (qBh.2 q)
     simp at g
    simp at g
   | _=>exact B (by simpa only[Ye,l]using g)
 | build t ps=>
  simp only[Ye,l]at g;split at g
  ·rename_i j;simp only[qAc]at j;split at g
   ·rename_i fs i D C;split at g
    ·rename_i z qs q U;obtain⟨F,rfl⟩:=YC g;exact Zph l D C q F U j.1 j.2 h r
    simp at g
   ·rename_i n e i D C;split at g
    ·rename_i z ie q M;split at g
     ·rename_i qs U;simp only[qAe]at g;subst g;exact Zpg l D C q M U j.1 j.2 h r
     simp at g
    simp at g
   simp at g
  simp at g
 | buildSlice t len ps=>
  simp only[Ye,l]at g;split at g
  ·rename_i j;simp only[qAc]at j;split at g
   ·rename_i e D;split at g
    ·rename_i ie M;split at g
     ·rename_i z qs q U;split at g
      ·rename_i F;simp only[qAc,qAR,qBe,beq_eq_false_iff_ne,ne_eq]at F;simp only[qAe]at g;subst g;exact Zpf l D M q F.1 F.2 U j.1 j.2 h r
      simp only[qAe]at g;subst g;refine UH l (by simp) (λx E=>?_) j.2 h r;simp only[Op.operands,qAv,qAB]at E;obtain⟨p,Z,rfl⟩:=E;exact qAm.1 j.1 p (qBh.1 Z)
     simp at g
    simp at g
   simp at g
  simp at g
 | select cs b=>simp[Ye,l]at g
 | _=>exact Mo l (by simp) (by simpa only[Ye,l]using g) h r
end sound
end
section
variable{P:PQ}{L:List (Nat×Nat)}{m:Nat}{H Ha:Hp}{a:Act}
structure NI where
 g:Option (Nat×Bool)
 dst:Option Nat
 op:bE
structure aM.Le(σ₀ σ:aM):Prop where
 env:∀t v,σ₀.env t=some v->σ.env t=some v
 box:∀d cs,σ₀.box d=some cs->σ.box d=some cs
 dQ:σ.dQ=σ₀.dQ
def eN.GW{σ₀ σ:aM}(r:eN P L m σ H a Ha)(h:σ₀.Le σ):eN P L m σ₀ H a Ha:=by obtain⟨ρ,K,g,j,l,n,p,q⟩:=r.mem;exact⟨r.size,r.defers.trans h.dQ,ρ,K,g,j,λd cs hd=>l d cs (h.box d cs hd),λd c cs b s u=>n d c cs b (h.box _ _ s) (h.box _ _ u),λt v w=>p t v (h.env t v w),q⟩
def oE(P:aX):List NI->(aM->Hp->Prop)->aM->Hp->Prop
 | [],Q,σ,H=>Q σ H
 | i :: r,Q,σ,H=>
  match i.g with
  | none=>i.op.w P i.dst (oE P r Q) σ H
  | some (t,b)=>∃v,σ.env t=some v/\(v=.bool b->i.op.w P i.dst (oE P r Q) σ H)/\(v≠.bool b->oE P r Q (σ.fB i.dst) H)
def iD.then(next:aM->Hp->Prop)(Q:Ex->aM->Hp->Prop):Ex->aM->Hp->Prop
 | .normal,a,H=>next a H
 | e,a,H=>Q e a H
def iD.inBlock(id:Nat)(Q:Ex->aM->Hp->Prop):Ex->aM->Hp->Prop
 | .exit b,a,H=>if b=id then Q .normal a H else Q (.exit b) a H
 | e,a,H=>Q e a H
def MC(P:Program)(L:List (Nat×Nat))(m:Nat)(aI:Array Oper)(i:Nat):Option NI:=
 match aI[i]? with
 | none=>none
 | some o=>
  match Ye P L m o with
  | none=>none
  | some op=>
   match o.guard with
   | none=>some ⟨none,o.dst,op⟩
   | some (j,b)=>
    match (aI[j]?).bind (·.dst)with
    | none=>none
    | some t=>if nl L (.tmp t)then some ⟨some (t,b),o.dst,op⟩else none
def Y3(P:Program)(L:List (Nat×Nat))(m:Nat)(aI:Array Oper):List Nat->Option (List NI)
 | []=>some []
 | i :: r=>match MC P L m aI i,Y3 P L m aI r with
  | some x,some b=>some (x :: b)
  | _,_=>none
def ZnA{σ:aM}(r:eN P L m σ H a Ha){aI:Array Oper}{j t:Nat}{v:Value}{p7:Bool}(l:(aI[j]?).bind (·.dst)=some t)(n:nl L (.tmp t)=true)(hb:σ.env t=some v):(v=.bool p7->yielded aI a.tmps j=some p7)/\(v≠.bool p7->yielded aI a.tmps j≠some p7):=by
 have c:a.eval (.tmp t)=v:=r.get n hb;simp only[Act.eval,qCe]at c;unfold yielded;rw[l];show(_->(match a.tmps[t]? with | some (.bool b)=>some b | _=>none)=some p7)/\(_->(match a.tmps[t]? with | some (.bool b)=>some b | _=>none)≠some p7);cases h:a.tmps[t]? with
 | none=>
  rw[h]at c;refine⟨λe=>?_,λ_=>by simp⟩;rw[<-c]at e;simp[undef]at e
 | some u=>
  rw[h]at c;have c:u=v:=c;subst c;refine⟨λe=>by rw[e],λe=>?_⟩;split
  ·rename_i b hb;obtain rfl:=iO hb;intro g;exact e (by rw[iO g])
  simp
def WW{P:aX}{nr:Bool}{L:List (Nat×Nat)}{m:Nat}{aI:Array Oper}{Q:aM->Hp->Prop}(G:tP L=true->nr=true):∀{l:List Nat} {E:List NI} {σ:aM} {H Ha:Hp} {a:Act},Y3 P L m aI l=some E->oE P E Q σ H->eN P L m σ H a Ha->uX P nr aI (Nx P L m Q) l a Ha
 | [],E,σ,H,Ha,a,s,h,r=>by simp only[Y3,qAe]at s;subst s;exact⟨_,_,r,h⟩
 | i :: l,E,σ,H,Ha,a,s,h,r=>by
  simp only[Y3]at s;split at s
  ·rename_i x N c D;simp only[qAe]at s;subst s;simp only[MC]at c;split at c
   ·simp at c
   rename_i o T;split at c
   ·simp at c
   rename_i op J;have q:op.w P o.dst (oE P N Q) σ H->lO P nr o a (uX P nr aI (Nx P L m Q) l) Ha:=by
    intro y;have key:∀F u,Nx P L m (oE P N Q) F u->uX P nr aI (Nx P L m Q) l F u:=λF u ⟨σ',W,U,I⟩=>WW G D I U;refine(Zn0 G J y r).imp (Vi ?_) (Zk.mono · λv H C=>key _ _ C);rintro n g V (A | B)
    ·exact .inl A
    refine .inr ?_;cases n with
    | enter f args=>exact Zc.mono B (λv H C=>key _ _ C)
    | round Y f tmps aA X=>exact UX.mono B (λv H C=>key _ _ C)
    | value v=>exact key _ _ B
    | skip=>exact key _ _ B
    | defer d=>exact key _ _ B
    | _=>exact B.elim
   simp only[uX,T];split at c
   ·rename_i A;simp only[qAe]at c;subst c;have y:Region.wanted o (yielded aI a.tmps)=true:=by simp[Region.wanted,A]
    simp only[y,qBp];exact q h
   rename_i j p7 A;split at c
   ·simp at c
   rename_i t K;split at c
   ·rename_i S;simp only[qAe]at c;subst c;obtain⟨b,hb,O,R⟩:=h;have M:=ZnA (p7:=p7) r K S hb;by_cases p:b=.bool p7
    ·have y:Region.wanted o (yielded aI a.tmps)=true:=by simp[Region.wanted,A,M.1 p]
     simp only[y,qBp];exact q (O p)
    have y:Region.wanted o (yielded aI a.tmps)=false:=by simp[Region.wanted,A,M.2 p]
    simp only[y,DO,qAw];exact WW G D (R p) (r.fB _)
   simp at c
  simp at s
end
variable{k:IntKind}
def Zh5{G:Prop} (h:G:=by
  simp only[ZR]at h;simp only[oE];split at h
  ·exact⟨_,‹_›,λ_=>bE.tB (λσ H h=>ZR.n hq h) h,λe=>absurd rfl e⟩
  ·exact⟨_,‹_›,λe=>by simp at e,λ_=>ZR.n hq h⟩
  ·exact⟨_,‹_›,λe=>by simp at e,λ_=>ZR.n hq h⟩
  exact h.elim):G:=h
def aC(H:Hp)(a:Addr)(b:List Value):Prop:=a.spot=none/\∃o p,H a.block=some (o,p)/\∀j,j<b.length->Obj.mB o (a.off+j)=b[j]?
def pZ(z:Int):Prop:=-9223372036854775808<=z/\z<=9223372036854775807
def Uk{z:Int}(h:pZ z):IntKind.i64.wrap z=z:=by obtain⟨b,c⟩:=h;simp only[IntKind.wrap,IntKind.bits,IntKind.signed];simp;omega
def YV:IntKind->IntKind->Bool
 | .i8,.i8 | .i16,.i16 | .i32,.i32 | .i64,.i64 | .u8,.u8 | .u16,.u16 | .u32,.u32 | .u64,.u64=>true
 | _,_=>false
def Zt6{b:IntKind}(h:YV k b=true):k=b:=by cases k<;>cases b<;>simp_all[YV]
def WH(op:BinOp)(k:IntKind)(m n:Int)(K:Value->Prop):Prop:=
 match op,k with
 | .add,.i64=>pZ (m+n)/\K (.int .i64 (m+n))
 | .sub,.i64=>pZ (m-n)/\K (.int .i64 (m-n))
 | .mul,.i64=>pZ (m * n)/\K (.int .i64 (m * n))
 | .add,k=>K (.int k (k.wrap (m+n)))
 | .sub,k=>K (.int k (k.wrap (m-n)))
 | .mul,k=>K (.int k (k.wrap (m * n)))
 | .eql,_=>∀b:Bool,(b=true↔m=n)->K (.bool b)
 | .neq,_=>∀b:Bool,(b=true↔m≠n)->K (.bool b)
 | .lss,_=>∀b:Bool,(b=true↔m<n)->K (.bool b)
 | .leq,_=>∀b:Bool,(b=true↔m<=n)->K (.bool b)
 | .gtr,_=>∀b:Bool,(b=true↔m > n)->K (.bool b)
 | .geq,_=>∀b:Bool,(b=true↔m ≥ n)->K (.bool b)
 | _,_=>False
def Zx4{op:BinOp}{m n:Int}{K:Value->Prop}(h:WH op k m n K):∃v,EG op k m n=some v/\K v:=by
 cases op<;>simp only[WH]at h<;>try exact h.elim
 case add=>cases k<;>first | exact⟨_,rfl,h⟩ | (refine⟨_,rfl,?_⟩;rw[Uk h.1];exact h.2)
 case sub=>cases k<;>first | exact⟨_,rfl,h⟩ | (refine⟨_,rfl,?_⟩;rw[Uk h.1];exact h.2)
 case mul=>cases k<;>first | exact⟨_,rfl,h⟩ | (refine⟨_,rfl,?_⟩;rw[Uk h.1];exact h.2)
 all_goals exact⟨_,rfl,h _ (by simp)⟩
def ZsL(b:List Value)(off:Nat)(K:Value->Prop):Prop:=∃v,b[off]? = some v/\K v
def bE.m(P:aX)(op:bE)(dst:Option Nat)(next:aM->Hp->Prop)(σ:aM)(H:Hp):Prop:=
 match op with
 | .cY x=>match σ.get x with | some v=>next (σ.set dst v) H | none=>False
 | .pick c a b=>match σ.get c with
  | some (.bool true)=>match σ.get a with | some v=>next (σ.set dst v) H | none=>False
  | some (.bool false)=>match σ.get b with | some v=>next (σ.set dst v) H | none=>False
  | _=>False
 | .aY op x y=>match σ.get x,σ.get y with
  | some (.int k m),some (.int s n)=>match YV k s with
   | true=>WH op k m n λv=>next (σ.set dst v) H
   | false=>False
  | _,_=>False
 | .not x=>match σ.get x with | some (.bool true)=>next (σ.set dst (.bool false)) H | some (.bool false)=>next (σ.set dst (.bool true)) H | _=>False
 | .ext x i=>match σ.get x with
  | some (.tuple q)=>match q[i]? with | some v=>next (σ.set dst v) H | none=>False
  | _=>False
 | .lR off n x=>match σ.get x with
  | some (.agg cs)=>match n with
   | none=>match cs[off]? with | some v=>next (σ.set dst v) H | none=>False
   | some n=>next (σ.set dst (.agg ((cs.toList.drop off).take n).toArray)) H
  | _=>False
 | .aN off x=>match σ.get x with | some (.pointer (some a))=>next (σ.set dst (.pointer (some (a.add off)))) H | _=>False
 | .bQ l x i=>match σ.get x,σ.get i with
  | some (.slice A ln _),some (.int _ n)=>∃a,A=some a/\(0<=n/\n<(ln:Nat))/\next (σ.set dst (.pointer (some (a.add (n.toNat * l))))) H
  | _,_=>False
 | .ld n x=>P.still H.gh=false/\match σ.get x with
  | some (.pointer (some a))=>match n with
   | none=>∃v,aC H a [v]/\next (σ.set dst v) H
   | some n=>∃cs:List Value,cs.length=n/\aC H a cs/\next (σ.set dst (.agg cs.toArray)) H
  | _=>False
 | .len x=>match σ.get x with | some (.slice _ n _)=>next (σ.set dst (.int .i64 (Int.ofNat n))) H | _=>False
 | .aQ d p z=>P.still H.gh=false/\next (((σ.drop p).set (some d) (.int .i64 (Int.ofNat 0))).put d z) H
 | .aP d p x=>P.still H.gh=false/\match σ.get x with
  | some (.agg cs)=>next (((σ.drop p).set (some d) (.int .i64 (Int.ofNat 0))).put d cs.toList) H
  | some v=>next (((σ.drop p).set (some d) (.int .i64 (Int.ofNat 0))).put d v.cells.toList) H
  | none=>False
 | .aU off t=>match σ.env t with | some (.int .i64 (.ofNat n))=>next (σ.set dst (.int .i64 (Int.ofNat (n+off)))) H | _=>False
 | .fC l ln t i=>match σ.env t,σ.get i with
  | some (.int .i64 (.ofNat n)),some (.int _ j)=>(0<=j/\j<(ln:Nat))/\next (σ.set dst (.int .i64 (Int.ofNat (n+j.toNat * l)))) H
  | _,_=>False
 | .dA d n t=>P.still H.gh=false/\match σ.env t,σ.box d with
  | some (.int .i64 (.ofNat off)),some cs=>match n with
   | none=>ZsL cs off λv=>next (σ.set dst v) H
   | some n=>match Nat.ble (off+n) cs.length with
    | true=>next (σ.set dst (.agg ((cs.drop off).take n).toArray)) H
    | false=>False
  | _,_=>False
 | .qU d n t x=>P.still H.gh=false/\match σ.env t,σ.box d,σ.get x with
  | some (.int .i64 (.ofNat off)),some cs,some v=>(v.cells.size=n/\off+n<=cs.length/\(v.cells.toList.all Value.cJ)=true)/\next (σ.put d (ZG cs off v.cells.toList)) H
  | _,_,_=>False
 | .call f args=>match σ.gets args with
  | some q=>Zc P f q.toArray H λv h=>next (σ.set dst v) h
  | none=>False
 | .build z ps=>match buildV σ ps z with | some cs=>next (σ.set dst (.agg cs.toArray)) H | none=>False
 | .aO e ln z ps=>P.still H.gh=false/\match buildV σ ps z with
  | some cs=>∀r,H r=none->next (σ.set dst (.slice (some ⟨r,0,none⟩) ln ln)) (H.ins r (.cells cs.toArray e))
  | none=>False
 | .raw op ty=>(op.operands.all λx=>(σ.get x).isSome)=true/\(bL P (execOp (λx=>(σ.get x).getD undef) (aR op ty)) (λn g h=>g=true\/C1 P op dst next σ n h) false H \/
   Zk P (execOp (λx=>(σ.get x).getD undef) (aR op ty)) (Va P (aR op ty)) false H λv h=>next (σ.set dst v) h)
 | .jJ op ty=>(op.operands.all λx=>(σ.get x).isSome)=true/\Zk P (execOp (λx=>(σ.get x).getD undef) (aR op ty)) (Va P (aR op ty)) true H λv h=>next (σ.set dst v) h
 | .bU op ty=>(op.operands.all λx=>(σ.get x).isSome)=true/\∃v,oT P (execOp (λx=>(σ.get x).getD undef) (aR op ty)) v/\next (σ.set dst v) H
theorem bE.tB{P:aX}{op:bE}{dst:Option Nat}{next A:aM->Hp->Prop}{σ:aM}{H:Hp}(l:∀σ H,next σ H->A σ H)(h:op.m P dst next σ H):op.w P dst A σ H:=by
 cases op<;>simp only[bE.m]at h<;>simp only[bE.w]
 case cY x=>split at h;exact⟨_,‹_›,l _ _ h⟩;exact h.elim
 case pick c a b=>
  split at h
  ·split at h;exact⟨true,_,‹_›,‹_›,l _ _ h⟩;exact h.elim
  ·split at h;exact⟨false,_,‹_›,‹_›,l _ _ h⟩;exact h.elim
  ·exact h.elim
 case aY op x y=>
  split at h
  ·split at h
   ·rename_i I;obtain rfl:=Zt6 I;obtain⟨v,q,s⟩:=Zx4 h;exact⟨_,_,_,v,‹_›,‹_›,q,l _ _ s⟩
   exact h.elim
  ·exact h.elim
 case not x=>split at h;exact⟨true,‹_›,l _ _ h⟩;exact⟨false,‹_›,l _ _ h⟩;exact h.elim
 case ext x i=>
  split at h
  ·split at h;exact⟨_,_,‹_›,‹_›,l _ _ h⟩;exact h.elim
  ·exact h.elim
 case lR off n x=>
  split at h
  ·cases n with
   | none=>simp only at h;split at h;exact⟨_,‹_›,_,‹_›,l _ _ h⟩;exact h.elim
   | some n=>
    rename_i cs K;refine⟨cs,K,?_⟩;have:cs.extract off (off+n)=((cs.toList.drop off).take n).toArray:=by apply Array.ext';simp[Array.toList_extract]
    simp only;rw[this];exact l _ _ h
  ·exact h.elim
 case aN off x=>split at h;exact⟨_,‹_›,l _ _ h⟩;exact h.elim
 case bQ bV x i=>
  split at h
  ·obtain⟨a,rfl,q,s⟩:=h;exact⟨a,_,_,_,_,‹_›,‹_›,q.1,q.2,l _ _ s⟩
  ·exact h.elim
 case ld n x=>
  obtain⟨u,h⟩:=h
  refine⟨u,?_⟩
  split at h
  ·cases n with
   | none=>
    obtain⟨v,⟨q,o,p,s,B⟩,C⟩:=h;exact⟨_,o,p,‹_›,q,s,v,by simpa using B 0 (by simp),l _ _ C⟩
   | some n=>
    obtain⟨cs,G,⟨q,o,p,s,B⟩,C⟩:=h;exact⟨_,o,p,‹_›,q,s,cs,G,λj N=>B j O,l _ _ C⟩
  ·exact h.elim
 case len x=>split at h;exact⟨_,_,_,‹_›,l _ _ h⟩;exact h.elim
 case aQ d ts z=>exact⟨h.1,l _ _ h.2⟩
 case aP d ts x=>obtain⟨F,h⟩:=h;refine⟨F,?_⟩;split at h;exact⟨_,‹_›,l _ _ (by exact h)⟩;exact⟨_,‹_›,l _ _ (by exact h)⟩;exact h.elim
 case aU off t=>split at h;exact⟨_,‹_›,l _ _ h⟩;exact h.elim
 case fC bV ln t i=>
  split at h
  ·exact⟨_,_,_,‹_›,‹_›,h.1.1,h.1.2,l _ _ h.2⟩
  ·exact h.elim
 case dA d n t=>
  obtain⟨u,h⟩:=h
  refine⟨u,?_⟩
  split at h
  ·cases n with
   | none=>obtain⟨v,q,s⟩:=h;exact⟨_,_,‹_›,‹_›,v,q,l _ _ s⟩
   | some n=>
    simp only at h;split at h
    ·rename_i E;exact⟨_,_,‹_›,‹_›,qCN E,l _ _ h⟩
    exact h.elim
  ·exact h.elim
 case qU d n t x=>
  obtain⟨u,h⟩:=h
  refine⟨u,?_⟩
  split at h
  ·obtain⟨⟨q,s,B⟩,C⟩:=h;refine⟨_,_,_,‹_›,‹_›,‹_›,q,s,B,?_⟩;have:=l _ _ C;unfold ZG at this;rw[qBy,q]at this;exact this
  ·exact h.elim
 case call f args=>
  split at h
  ·exact⟨_,‹_›,Zc.mono h λv H D=>l _ _ D⟩
  ·exact h.elim
 case build z ps=>split at h;exact⟨_,‹_›,l _ _ h⟩;exact h.elim
 case aO e ln z ps=>obtain⟨F,h⟩:=h;refine⟨F,?_⟩;split at h;exact⟨_,‹_›,λr J=>l _ _ (h r J)⟩;exact h.elim
 case jJ op ty=>exact⟨h.1,h.2.mono λv H D=>l _ _ D⟩
 case bU op ty=>obtain⟨q,v,s,B⟩:=h;exact⟨q,v,s,l _ _ B⟩
 case raw op ty=>
  refine⟨h.1,h.2.imp (Vi λn g M h=>h.imp id (C1.mono l)) (Zk.mono · λv H D=>l _ _ D)⟩
def ZR(P:aX):List NI->(aM->Hp->Prop)->aM->Hp->Prop
 | [],Q,σ,H=>Q σ H
 | ⟨none,d,op⟩ :: r,Q,σ,H=>op.m P d (ZR P r Q) σ H
 | ⟨some (t,true),d,op⟩ :: r,Q,σ,H=>match σ.env t with
  | some (.bool true)=>op.m P d (ZR P r Q) σ H
  | some (.bool false)=>ZR P r Q (σ.fB d) H
  | some (.tuple _)=>ZR P r Q (σ.fB d) H
  | _=>False
 | ⟨some (t,false),d,op⟩ :: r,Q,σ,H=>match σ.env t with
  | some (.bool false)=>op.m P d (ZR P r Q) σ H
  | some (.bool true)=>ZR P r Q (σ.fB d) H
  | some (.tuple _)=>ZR P r Q (σ.fB d) H
  | _=>False
def ZR.n{P:aX}{Q b:aM->Hp->Prop}(hq:∀σ H,Q σ H->b σ H):∀{l:List NI} {σ:aM} {H:Hp},ZR P l Q σ H->oE P l b σ H
 | [],σ,H,h=>hq _ _ h
 | ⟨none,d,op⟩ :: r,σ,H,h=>bE.tB (λσ H h=>ZR.n hq h) h
 | ⟨some (t,true),d,op⟩ :: r,σ,H,h=>by exact Zh5
 | ⟨some (t,false),d,op⟩ :: r,σ,H,h=>by exact Zh5
