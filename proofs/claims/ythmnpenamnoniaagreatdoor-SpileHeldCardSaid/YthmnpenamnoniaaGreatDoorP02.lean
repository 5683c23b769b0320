import Derived.Test.YthmnpenamnoniaaGreatDoorP01
set_option linter.all false
namespace Go.LL
section
variable{ρ ρ':Operand->Value}{f:FuncId}{m5:Op}{ps:Array (Nat×Operand)}{t e:TypeId}{i ie:TypeInfo}{z:Value}{qs:List (Nat×Nat×Operand)}
def Nv{G:Prop} (h:G:=by show execOp a.eval (aN o.op o.type)=_;refine Ag (o:=aN o.op o.type) (λx zM=>?_) hs;have:=qAd.1 h1 x zM;obtain⟨v,hv⟩:=qBT.1 this;rw[hv];exact r.get (hx x zM) hv):G:=h
def KR{xs:Array Operand}(h:∀x∈xs,ρ x=ρ' x):xs.map ρ=xs.map ρ':=Array.map_congr_left h
def TW{xs:Array (Nat×Operand)}(h:∀x∈(xs.toList.map (·.2)).toArray,ρ x=ρ' x):(xs.map λ(i,x)=>(i,ρ x))=xs.map λ(i,x)=>(i,ρ' x):=by refine Array.map_congr_left λp b=>?_;have:=h p.2 (by simp only[qAb,qAj];exact⟨p,qAu.2 b,rfl⟩);simp[this]
def E4{x:Option Operand}(h:∀y∈x.toArray,ρ y=ρ' y):x.map ρ=x.map ρ':=by
 cases x with
 | none=>rfl
 | some y=>simp[h y (by simp)]
def MZ{c:Call}(t:TypeId)(h:∀x∈c.operands,ρ x=ρ' x):resolve ρ c t=resolve ρ' c t:=by
 obtain⟨g,args,p⟩:=c;have j:args.map ρ=args.map ρ':=KR λx l=>h x (by simp[Call.operands,l]);unfold resolve;cases g with
 | builtin b=>simp only[j]
 | invoke r n=>simp only[j,h r (by simp[Call.operands])]
 | value f=>simp only[j,h f (by simp[Call.operands])]
def Ag{o:Oper}(h:∀x∈o.op.operands,ρ x=ρ' x)(s:∀j b,o.op≠.select j b):execOp ρ o=execOp ρ' o:=by
 obtain⟨dst,op,ty,pos,after,guard⟩:=o;unfold execOp;simp only at h ⊢;cases op with
 | build t ps=>simp only[TW (xs:=ps) (by simpa[Op.operands]using h)]
 | buildSlice t n ps=>simp only[TW (xs:=ps) (by simpa[Op.operands]using h)]
 | makeFunc fn f c=>simp only[KR (xs:=f) (λx p=>h x (by simp[Op.operands,p])),KR (xs:=c) (λx p=>h x (by simp[Op.operands,p]))]
 | makeMap t r=>simp only[E4 (x:=r) (λy g=>h y (by simpa[Op.operands]using g))]
 | slice t x l q u=>
  simp only[h x (by simp[Op.operands]),E4 (x:=l) (λy g=>h y (by simp only[Op.operands,qAC];exact .inl (.inl (.inr g)))),
   E4 (x:=q) (λy g=>h y (by simp only[Op.operands,qAC];exact .inl (.inr g))),E4 (x:=u) (λy g=>h y (by simp only[Op.operands,qAC];exact .inr g))]
 | call c=>simp only[MZ _ h]
 | go c=>simp only[MZ _ h]
 | defer c=>simp only[MZ _ h]
 | select j b=>exact absurd rfl (s j b)
 | _=>simp_all[Op.operands]
section eL
variable{P:aY}{nr:Bool}{L:List (Nat×Nat)}{m:Nat}{o:Oper}{next:aL->Hp->Prop}{σ:aL}{H Ha:Hp}{a:Act}{op:aR}
def cX.dM{P:PQ}{L:List (Nat×Nat)}{m:Nat}{σ:aL}{H:Hp}{a:Act}{Ha:Hp}(r:cX P L m σ H a Ha):∀{xs:List Operand} {b:List Value},(∀x∈xs,nl L x=true)->σ.dM xs=some b->xs.map a.eval=b
 | [],b,_,h=>by simpa[aL.dM]using h
 | x :: xs,b,g,h=>by
  simp only[aL.dM]at h;cases h1:σ.get x with
  | none=>simp[h1]at h
  | some v=>
   cases c:σ.dM xs with
   | none=>simp[h1,c]at h
   | some l=>
    simp[h1,c]at h;subst h;simp[r.get (g x (by simp)) h1,r.dM (λy j=>g y (by simp[j])) c]
def Za.rel{j:Array Value}{b:Value->Hp->Prop}(h:Za P f j H b)(r:cX P L m σ H a Ha):Za P f j Ha (λv g=>∃c,cX P L m σ c a g/\b v c):=by obtain⟨ρ,K,l,n,p,q,s,u⟩:=r.mem;rw[l];refine(h.frame n).mono ?_;rintro v y ⟨c,rfl,w,x⟩;exact⟨c,⟨r.size,r.defers,ρ,K,rfl,w,p,q,s,u⟩,x⟩
def Zqg{args:Array Operand}{D:Array TypeId}{fn:Func}(A:o.op=.call { callee:=.value (.func f),args:=args,argTypes:=D })(u:P.funcs[f]? = some fn)(hb:fn.body.isSome=true)(c:(fn.name == "runtime.NumGoroutine")=false)
  (B:∀x∈args.toList,nl L x=true) (s:eK L m o.dst=true) (h:(aR.call f args.toList).w P o.dst next σ H) (r:cX P L m σ H a Ha):fR P nr o a (Nx P L m next) Ha:=by
 obtain⟨g,p,q⟩:=h;have j:=r.dM B p;have n:args.map a.eval=g.toArray:=by obtain⟨args⟩:=args;simp only[qBq];simp only at j;rw[j]
 refine .inl ?_;have:execOp a.eval o=callFunc f (g.toArray++#[]):=by simp[execOp,A,resolve,invoke,n,Act.eval,Deferred.ofValue]
 rw[this];simp only[callFunc,Ze,Vu,u,c,dO,qAf];have b:fn.body.isNone=false:=by simpa using hb
 simp only[b,dO,qAf,Zi];refine .inr ?_;show Za P f (g.toArray++#[]) Ha _;rw[qAg];refine(q.rel r).mono ?_;rintro v l ⟨E,C,y⟩;exact⟨_,_,C.set s v,y⟩
def US(I:o.op=m5)(hs:∀R b,m5≠.select R b)(hx:∀x∈m5.operands,nl L x=true)(s:eK L m o.dst=true)(h:(aR.raw m5 o.type).w P o.dst next σ H)(r:cX P L m σ H a Ha):fR P nr o a (Nx P L m next) Ha:=by
 subst I;obtain⟨h1,y⟩:=h;have e:execOp a.eval o=execOp (λx=>(σ.get x).getD undef) (aN o.op o.type):=by exact Nv
 obtain⟨ρ,K,M,N,C,D,E,F⟩:=r.mem;rcases y with y | y;case inr=>
  refine .inr ?_
  rw[e,show Vw P o=Vw P (aN o.op o.type)from rfl,M]
  refine(y.any.frame N).mono ?_
  rintro v J ⟨u,rfl,A,c⟩
  have B:cX P L m σ u a (u.join K):=⟨r.size,r.defers,ρ,K,rfl,A,C,D,E,F⟩
  exact⟨_,_,B.set s v,c⟩
 refine .inl ?_;rw[e,M];refine Vv ?_ (G6 y N);rintro n g J ⟨u,rfl,A,S | c⟩
 ·exact .inl S
 have B:cX P L m σ u a (u.join K):=⟨r.size,r.defers,ρ,K,rfl,A,C,D,E,F⟩;refine .inr ?_;cases n with
 | value v=>exact⟨_,_,B.set s v,c⟩
 | skip=>exact⟨_,_,B.set s undef,c⟩
 | enter f args=>
  refine(Za.rel c B).mono ?_;rintro v Q ⟨p,q,c⟩;exact⟨_,_,q.set s v,c⟩
 | round l f tmps aA T=>
  refine(U6.frame c A).mono ?_;rintro v J ⟨p,rfl,G,c⟩;have q:cX P L m σ p a (p.join K):=⟨r.size,r.defers,ρ,K,rfl,G,C,D,E,F⟩;exact⟨_,_,q.set s v,c⟩
 | defer d=>
  obtain⟨_,O,c⟩:=c;refine⟨_,_,cX.set (a:={ a with defers:=d :: a.defers }) (σ:={ σ with bN:=d :: σ.bN }) ⟨r.size,?_,ρ,K,rfl,A,C,D,E,F.plain O⟩ s undef,c⟩;simp only[OS,O,dO,qAf];rw[r.defers]
 | _=>exact c.elim
def Zp3(c:nr=true)(g:o.op=m5)(hs:∀n b,m5≠.select n b)(hx:∀x∈m5.operands,nl L x=true)(D:eK L m o.dst=true)(h:(aR.eQ m5 o.type).w P o.dst next σ H)(r:cX P L m σ H a Ha):fR P nr o a (Nx P L m next) Ha:=by
 subst g;subst c;obtain⟨h1,B⟩:=h;have e:execOp a.eval o=execOp (λx=>(σ.get x).getD undef) (aN o.op o.type):=by exact Nv
 obtain⟨ρ,K,p,q,s,u,y,A⟩:=r.mem;refine .inr ?_;rw[e,show Vw P o=Vw P (aN o.op o.type)from rfl,p];refine(B.frame q).mono ?_;rintro v G ⟨j,rfl,C,E⟩;have F:cX P L m σ j a (j.join K):=⟨r.size,r.defers,ρ,K,rfl,C,s,u,y,A⟩;exact⟨_,_,F.set D v,E⟩
def XN:∀(b:List Value) (off k:Nat) (z:List Value),off+k+b.length<=z.length ->
  ((b.zipIdx k).foldl (λg (c,j)=>g.setIfInBounds (off+j) c) z.toArray)=(ZZ z (off+k) b).toArray
 | [],off,k,z,_=>by simp[ZZ]
 | v :: b,off,k,z,h=>by
  simp only[qAI]at h;simp only[List.zipIdx_cons,qBZ,List.setIfInBounds_toArray];have:=XN b off (k+1) (z.set (off+k) v) (by simp;omega);rw[this];congr 1;unfold ZZ;have l:(z.set (off+k) v).take (off+(k+1))=z.take (off+k)++[v]:=by rw[<-qCl,iO (by simp;omega),qCP O];simp
  have n:(z.set (off+k) v).drop (off+(k+1)+b.length)=z.drop (off+k+(b.length+1)):=by rw[List.drop_set_of_lt O];congr 1;omega
  rw[l,n];simp
def D8{place:Nat->Option (Nat×Nat)}(r:cX P L m σ H a Ha):∀{ps:List (Nat×Operand)} {qs:List (Nat×Nat×Operand)} {z g:List Value},UM place ps=some qs->(∀p∈ps,nl L p.2=true)->buildV σ qs z=some g ->
  Instr.fill place z.toArray (ps.map λp=>(p.1,a.eval p.2))=some g.toArray
 | [],qs,z,g,b,_,hb=>by simp only[UM,aT]at b;subst b;simp only[buildV,aT]at hb;subst hb;rfl
 | (i,x) :: ps,qs,z,g,b,l,hb=>by
  simp only[UM]at b;split at b
  ·rename_i off h y n q;simp only[aT]at b;subst b;simp only[buildV]at hb;split at hb
   ·rename_i v w;have e:=r.get (l (i,x) (by simp)) w;simp only[qBh,Instr.fill,n,e];cases hc:(Nat.beq v.cells.size h && Nat.ble (off+h) z.length)with
    | false=>rw[hc]at hb;simp at hb
    | true=>
     rw[hc]at hb;simp only[oR]at hc;have c1:v.cells.size=h:=qAV hc.1;have c2:off+h<=z.length:=qBI hc.2;have:(decide (v.cells.size≠h) || decide (off+v.cells.size > z.toArray.size))=false:=by simp[c1];omega
     rw[this];simp only[dO,qAf];have s:v.cells.zipIdx.foldl (λg (c,j)=>g.setIfInBounds (off+j) c) z.toArray=(ZZ z off v.cells.toList).toArray:=by have:=XN v.cells.toList off 0 z (by simp only[qCn];omega);rw[qBB]at this;rw[<-this,<-qCq,Array.toList_zipIdx]
     rw[s];exact D8 r q (λp u=>l p (by simp[u])) hb
   simp at hb
  simp at b
def NW:(ps.map λ(i,x)=>(i,a.eval x)).toList=ps.toList.map λp=>(p.1,a.eval p.2):=by simp
def Zun{b:List Field}(h:∀f∈b,(P.info? f.type).isSome=true)(Q:List (Nat×Nat)->Bool->Hp->Prop)(g:Bool)(H:Hp)
  (n:∀ps:List (Nat×Nat),(∀i:Nat,ps[i]? = match b[i]? with | some (f:Field)=>(match P.info? f.type with | some i=>some (f.offset,i.size) | none=>none) | none=>none)->Q ps g H) :
  bD P (b.mapM λ(f:Field)=>do pure (f.offset,<-sizeOf f.type)) Q g H:=by
 induction b generalizing Q with
 | nil=>exact n [] (by simp)
 | cons f b ih=>
  obtain⟨i,l⟩:=qBT.1 (h f (by simp));rw[List.mapM_cons,Ze,Ze,Yf l];simp only[Zi];rw[Ze];refine ih (λf p=>h f (by simp[p])) _ λps c=>?_;simp only[Zi];refine n _ λj=>?_;cases j with
  | zero=>simp[l]
  | succ j=>simp[c j]
def Zqj{c:Array Field}(A:o.op=.build t ps)(D:P.underlying t=some (.struct c))(v:P.info? t=some i)(F:i.zero=some z)(y:Cr P c=true)
  (C:UM (FQ P c) ps.toList=some qs) (E:(ps.all λp=>nl L p.2)=true) (q:eK L m o.dst=true) (h:(aR.build z.cells.toList qs).w P o.dst next σ H) (r:cX P L m σ H a Ha):fR P nr o a (Nx P L m next) Ha:=by
 obtain⟨G,l,n⟩:=h;refine V2 (s:=Instr.build t (ps.map λ(i,x)=>(i,a.eval x))) (by simp[execOp,A]) ?_;simp only[Instr.build,Ze,Uu v F,ZA D];obtain⟨c⟩:=c;rw[List.mapM_toArray,map_eq_pure_bind,Ze];refine Zun (λf u=>qAd.1 y f (by simpa using u)) _ _ _ λls g=>?_;simp only[Zi];have j:(λx=>ls.toArray[x]?)=FQ P ⟨c⟩:=by
  funext x;simp only[qAt,g x,FQ];cases c[x]? with
  | none=>rfl
  | some f=>cases P.info? f.type<;>rfl
 have b:=D8 r C (λp B=>qAd.1 E p (qAu.1 B)) l;rw[<-NW,<-j]at b;simp only[qBM]at b;rw[b];exact .inr ⟨_,_,r.set q _,n⟩
def Zqi{n:Nat}(u:o.op=.build t ps)(A:P.underlying t=some (.array n e))(q:P.info? t=some i)(C:i.zero=some z)(l:P.info? e=some ie)
  (y:UM (λk=>some (k * ie.size,ie.size)) ps.toList=some qs) (B:(ps.all λp=>nl L p.2)=true) (j:eK L m o.dst=true) (h:(aR.build z.cells.toList qs).w P o.dst next σ H) (r:cX P L m σ H a Ha):fR P nr o a (Nx P L m next) Ha:=by
 obtain⟨D,c,g⟩:=h;refine V2 (s:=Instr.build t (ps.map λ(i,x)=>(i,a.eval x))) (by simp[execOp,u]) ?_;simp only[Instr.build,Ze,Uu q C,ZA A,Yf l];have b:=D8 r y (λp v=>qAd.1 B p (qAu.1 v)) c;rw[<-NW]at b;simp only[qBM]at b;rw[b];exact .inr ⟨_,_,r.set j _,g⟩
def Zqh{len:Nat}(G:o.op=.buildSlice t len ps)(N:P.underlying t=some (.slice e))(q:P.info? e=some ie)(R:ie.zero=some z)(F:len * ie.size<=2 ^ 24)(l:¬ len * ie.size=0)
  (J:UM (λk=>some (k * ie.size,ie.size)) ps.toList=some qs) (Q:(ps.all λp=>nl L p.2)=true) (E:eK L m o.dst=true)
  (h:(aR.aX e len ((Array.range (len * ie.size)).map (z.cells[· % z.cells.size]!)).toList qs).w P o.dst next σ H) (r:cX P L m σ H a Ha):fR P nr o a (Nx P L m next) Ha:=by
 obtain⟨M,S,C,D⟩:=h;refine V2 (s:=Instr.buildSlice t len (ps.map λ(i,x)=>(i,a.eval x))) (by simp[execOp,G]) ?_;simp only[Instr.buildSlice,Ze,ZA N,Yf q];have:¬ (len * ie.size > 2 ^ 24):=O;simp only[this,qAf,l,Ze,Uu q R,Zi];have c:=D8 r J (λp I=>qAd.1 Q p (qAu.1 I)) C;rw[<-NW]at c;simp only[qBM]at c;rw[c];simp only[newRow,Ze,newObj,Zi];refine⟨r.bB M,λb hb=>?_⟩;obtain⟨ρ,K,n,u,v,y,A,B⟩:=r.mem;rw[n]at hb;obtain⟨g,j⟩:=Hp.cI.1 hb;refine .inr ⟨_,_,cX.set ?_ E _,D b g⟩;exact⟨r.size,r.defers,ρ,K,by rw[n,<-Hp.fD],u.eE _ j,v,y,A,B⟩
end eL
end
section
variable{ty:TypeId}{d:Option Nat}
section eL
variable{P:aY}{nr:Bool}{L:List (Nat×Nat)}{m:Nat}{o:Oper}{next:aL->Hp->Prop}{σ:aL}{H Ha:Hp}{a:Act}{op:aR}
def YO{α:Type}{b:Bool}{x y:α}(h:(if b=true then some x else none)=some y):b=true/\x=y:=by cases b<;>simp_all
def Zs5{op:Op}(h:(aR.bT op ty).w P d next σ H):(aR.raw op ty).w P d next σ H:=by obtain⟨b,v,c,g⟩:=h;exact⟨b,.inl (c _ _ _ (.inr g))⟩
def Mw{op:Op}(h:(sZ P L op ty).w P d next σ H):(aR.raw op ty).w P d next σ H:=by
 unfold sZ at h;split at h
 ·exact Zs5 h
 exact h
def NO{m5:Op}(g:o.op=m5)(l:∀j b,m5≠.select j b)(n:(if(m5.operands.all (nl L)) && eK L m o.dst then some (sZ P L m5 o.type)else none)=some op)(h:op.w P o.dst next σ H)(r:cX P L m σ H a Ha):fR P nr o a (Nx P L m next) Ha:=by obtain⟨c,rfl⟩:=YO n;simp only[oR]at c;exact US g l (λx p=>qAd.1 c.1 x p) c.2 (Mw h) r
def Zpl(R:kM L=true->nr=true)(g:Yt P L m o=some op)(h:op.w P o.dst next σ H)(r:cX P L m σ H a Ha):fR P nr o a (Nx P L m next) Ha:=by
 cases l:o.op with
 | move x=>
  simp only[Yt,l]at g;obtain⟨j,rfl⟩:=YO g;simp only[oR]at j;exact Lw (.inl l) j.1 j.2 h r
 | assign x=>
  simp only[Yt,l]at g;obtain⟨j,rfl⟩:=YO g;simp only[oR]at j;exact Lw (.inr l) j.1 j.2 h r
 | pick c x y=>
  simp only[Yt,l]at g;obtain⟨j,rfl⟩:=YO g;simp only[oR]at j;exact Zp4 l j.1.1.1 j.1.1.2 j.1.2 j.2 h r
 | unOp u t x=>
  cases u with
  | not=>
   simp only[Yt,l]at g;obtain⟨j,rfl⟩:=YO g;simp only[oR]at j;exact Zp5 l j.1 j.2 h r
  | _=>simp only[Yt,l]at g;exact NO l (by simp) g h r
 | binOp b t x y ty=>
  simp only[Yt,l]at g;split at g
  ·rename_i j;simp only[oR]at j;have I:∀{op},sZ P L (.binOp b t x y ty) o.type=op->op.w P o.dst next σ H->fR P nr o a (Nx P L m next) Ha:=by
    rintro op rfl h;exact US l (by simp) (λz q=>by
     simp only[Op.operands]at q;simp only[qAb,DO,qBF,qCS]at q;rcases q with rfl | rfl
     ·exact j.1.1
     exact j.1.2) j.2 (Mw h) r
   split at g
   ·split at g
    ·simp only[aT]at g;subst g;exact Zqk l j.1.1 j.1.2 j.2 h r
    exact I (iN g) h
   exact I (iN g) h
  simp at g
 | extract x i=>
  simp only[Yt,l]at g;obtain⟨j,rfl⟩:=YO g;simp only[oR]at j;exact Zqf l j.1 j.2 h r
 | field t x f=>
  simp only[Yt,l]at g;split at g
  ·rename_i j;simp only[oR]at j;split at g
   ·rename_i off X W N;split at g
    ·rename_i n O;simp only[aT]at g;subst g;exact Zqe l N O j.1 j.2 h r
    simp at g
   simp at g
  simp at g
 | alloc t=>
  simp only[Yt,l]at g;split at g
  ·rename_i d K;split at g
   ·rename_i R;split at g
    ·rename_i i C;split at g
     ·rename_i z q;split at g
      ·rename_i Y;simp only[aT]at g;subst g;exact Zp6 l K (by simpa using R) Y C q h r
      simp at g
     simp at g
    simp at g
   obtain⟨j,rfl⟩:=YO g;exact US l (by simp) (λz q=>by simp[Op.operands]at q) j h r
  simp at g
 | box t x=>
  simp only[Yt,l]at g;split at g
  ·rename_i d K;split at g
   ·rename_i R;split at g
    ·rename_i j;simp only[oR,qAv]at j;simp only[aT]at g;subst g;exact Zqc l K (by simpa using R) j.2 j.1 h r
    simp at g
   obtain⟨j,rfl⟩:=YO g;simp only[oR]at j;exact US l (by simp) (λz q=>by simp[Op.operands]at q;rw[q];exact j.1) j.2 h r
  simp at g
 | fieldAddr t x f=>
  simp only[Yt,l]at g;split at g
  ·rename_i off X W N;split at g
   ·simp at g
   rename_i q;have Q:W≠0:=by simpa using q
   split at g
   ·rename_i s;split at g
    ·rename_i d A;obtain⟨j,rfl⟩:=YO g;simp only[oR]at j;exact Zqa l N Q A j.1 h r
    rename_i A;obtain⟨j,rfl⟩:=YO g;exact Lu l N Q (by simp[nl,A]) j h r
   rename_i E;obtain⟨j,rfl⟩:=YO g;refine Lu l N Q ?_ j h r;cases x with
   | tmp s=>exact absurd rfl (E s)
   | _=>rfl
  simp at g
 | indexAddr t x i=>
  simp only[Yt,l]at g;split at g
  ·rename_i C;split at g
   ·rename_i len e s D;split at g
    ·rename_i d ie A M;obtain⟨j,rfl⟩:=YO g;simp only[oR]at j;exact Zp9 l D M A C j.1 h r
    obtain⟨j,rfl⟩:=YO g;simp only[oR]at j;exact US l (by simp) (λz q=>by
     simp only[Op.operands]at q;simp only[qAb,DO,qBF,qCS]at q;rcases q with rfl | rfl
     ·exact j.2
     exact C) j.1 h r
   ·rename_i e D;split at g
    ·rename_i ie M;obtain⟨j,rfl⟩:=YO g;simp only[oR]at j;exact Zqd l D M j.1 C j.2 h r
    simp at g
   simp at g
  simp at g
 | load t x=>
  simp only[Yt,l]at g;split at g
  ·rename_i O;obtain⟨j,rfl⟩:=YO g;simp only[oR]at j;exact Zp3 (R O) l (by simp) (λz q=>by simp only[Op.operands,qAb,iF]at q;rw[q];exact j.1) j.2 h r
  split at g
  ·rename_i K;split at g
   ·rename_i n O;split at g
    ·rename_i s;split at g
     ·rename_i d A;simp only[aT]at g;subst g;exact Zp8 l O A K h r
     rename_i A;simp only[aT]at g;subst g;exact Lv l O (by simp[nl,A]) K h r
    rename_i E;simp only[aT]at g;subst g;refine Lv l O ?_ K h r;cases x with
    | tmp s=>exact absurd rfl (E s)
    | _=>rfl
   simp at g
  simp at g
 | store t x v=>
  simp only[Yt,l]at g;split at g
  ·rename_i j;simp only[oR,qCr]at j;split at g
   ·rename_i i C;split at g
    ·rename_i s;split at g
     ·rename_i d A;simp only[aT]at g;subst g;exact Zp7 l C A j.1 j.2 h r
     rename_i A;simp only[aT]at g;subst g;exact US l (by simp) (λz q=>by
      simp only[Op.operands]at q;simp only[qAb,DO,qBF,qCS]at q;rcases q with rfl | rfl
      ·simp[nl,A]
      exact j.1) (by rw[j.2];rfl) h r
    rename_i E;simp only[aT]at g;subst g;exact US l (by simp) (λz q=>by
      simp only[Op.operands]at q;simp only[qAb,DO,qBF,qCS]at q;rcases q with rfl | rfl
      ·cases z with
       | tmp s=>exact absurd rfl (E s)
       | _=>rfl
      exact j.1) (by rw[j.2];rfl) h r
   simp at g
  simp at g
 | call c=>
  have B:(if((Op.call c).operands.all (nl L)) && eK L m o.dst then some (sZ P L (.call c) o.type)else none)=some op->fR P nr o a (Nx P L m next) Ha:=λg=>NO l (by simp) g h r;obtain⟨J,args,ts⟩:=c;have T:∀{f},J=.builtin f->(Op.call { callee:=J,args:=args,argTypes:=ts }).operands=args:=by rintro f rfl;simp[Op.operands,Call.operands]
  cases J with
  | builtin b=>
   by_cases hb:b=.len
   ·subst hb;simp only[Yt,l]at g;split at g
    ·rename_i x t S V;split at g
     ·rename_i j;simp only[oR]at j;split at g
      ·rename_i e D;simp only[aT]at g;subst g;exact Zqb l S V D j.1 j.2 h r
      simp only[aT]at g;subst g;refine US l (by simp) (λz q=>?_) j.2 h r;rw[T rfl]at q;have:z∈args.toList:=qAu.2 q;rw[S]at this;simp at this;rw[this];exact j.1
     simp at g
    simp at g
   refine B ?_;cases b<;>first | exact absurd rfl hb | (simp only[Yt,l]at g;exact g)
  | invoke x n=>exact B (by simpa only[Yt,l]using g)
  | value x=>
   cases x with
   | func f=>
    simp only[Yt,l]at g;split at g
    ·rename_i j;simp only[oR]at j;have G:∀x∈args.toList,nl L x=true:=λx E=>qAd.1 j.1 x (qAu.1 E);split at g
     ·rename_i fn N;split at g
      ·rename_i F;simp only[oR,qAK]at F;simp only[aT]at g;subst g;exact Zqg l N F.1 F.2 G j.2 h r
      simp only[aT]at g;subst g;refine US l (by simp) (λz q=>?_) j.2 h r;simp only[Op.operands,Call.operands,qAC,qAb,iF]at q;rcases q with rfl | q
      ·rfl
      exact G z (qAu.2 q)
     simp at g
    simp at g
   | _=>exact B (by simpa only[Yt,l]using g)
 | build t ps=>
  simp only[Yt,l]at g;split at g
  ·rename_i j;simp only[oR]at j;split at g
   ·rename_i fs i D C;split at g
    ·rename_i z qs q U;obtain⟨F,rfl⟩:=YO g;exact Zqj l D C q F U j.1 j.2 h r
    simp at g
   ·rename_i n e i D C;split at g
    ·rename_i z ie q M;split at g
     ·rename_i qs U;simp only[aT]at g;subst g;exact Zqi l D C q M U j.1 j.2 h r
     simp at g
    simp at g
   simp at g
  simp at g
 | buildSlice t len ps=>
  simp only[Yt,l]at g;split at g
  ·rename_i j;simp only[oR]at j;split at g
   ·rename_i e D;split at g
    ·rename_i ie M;split at g
     ·rename_i z qs q U;split at g
      ·rename_i F;simp only[oR,qAv,qAK,beq_eq_false_iff_ne,ne_eq]at F;simp only[aT]at g;subst g;exact Zqh l D M q F.1 F.2 U j.1 j.2 h r
      simp only[aT]at g;subst g;refine US l (by simp) (λx E=>?_) j.2 h r;simp only[Op.operands,qAb,qAj]at E;obtain⟨p,Z,rfl⟩:=E;exact qAd.1 j.1 p (qAu.1 Z)
     simp at g
    simp at g
   simp at g
  simp at g
 | select cs b=>simp[Yt,l]at g
 | _=>exact NO l (by simp) (by simpa only[Yt,l]using g) h r
end eL
end
section
variable{P:PQ}{L:List (Nat×Nat)}{m:Nat}{H Ha:Hp}{a:Act}
structure NI where
 g:Option (Nat×Bool)
 dst:Option Nat
 op:aR
structure aL.Le(σ₀ σ:aL):Prop where
 env:∀t v,σ₀.env t=some v->σ.env t=some v
 box:∀d cs,σ₀.box d=some cs->σ.box d=some cs
 bN:σ.bN=σ₀.bN
def cX.tV{σ₀ σ:aL}(r:cX P L m σ H a Ha)(h:σ₀.Le σ):cX P L m σ₀ H a Ha:=by obtain⟨ρ,K,j,l,n,p,q,s⟩:=r.mem;exact⟨r.size,r.defers.trans h.bN,ρ,K,j,l,λd b x=>n d b (h.box d b x),λd g b c u w=>p d g b c (h.box _ _ u) (h.box _ _ w),λt v y=>q t v (h.env t v y),s⟩
def gV(P:aY):List NI->(aL->Hp->Prop)->aL->Hp->Prop
 | [],Q,σ,H=>Q σ H
 | i :: r,Q,σ,H=>
  match i.g with
  | none=>i.op.w P i.dst (gV P r Q) σ H
  | some (t,b)=>∃v,σ.env t=some v/\(v=.bool b->i.op.w P i.dst (gV P r Q) σ H)/\(v≠.bool b->gV P r Q (σ.dR i.dst) H)
def eJ.then(next:aL->Hp->Prop)(Q:Ex->aL->Hp->Prop):Ex->aL->Hp->Prop
 | .normal,a,H=>next a H
 | e,a,H=>Q e a H
def eJ.inBlock(id:Nat)(Q:Ex->aL->Hp->Prop):Ex->aL->Hp->Prop
 | .exit b,a,H=>if b=id then Q .normal a H else Q (.exit b) a H
 | e,a,H=>Q e a H
def y5(P:Program)(L:List (Nat×Nat))(m:Nat)(aG:Array Oper)(i:Nat):Option NI:=
 match aG[i]? with
 | none=>none
 | some o=>
  match Yt P L m o with
  | none=>none
  | some op=>
   match o.guard with
   | none=>some ⟨none,o.dst,op⟩
   | some (j,b)=>
    match (aG[j]?).bind (·.dst)with
    | none=>none
    | some t=>if nl L (.tmp t)then some ⟨some (t,b),o.dst,op⟩else none
def Vq(P:Program)(L:List (Nat×Nat))(m:Nat)(aG:Array Oper):List Nat->Option (List NI)
 | []=>some []
 | i :: r=>match y5 P L m aG i,Vq P L m aG r with
  | some x,some b=>some (x :: b)
  | _,_=>none
def ZoZ{σ:aL}(r:cX P L m σ H a Ha){aG:Array Oper}{j t:Nat}{v:Value}{iJ:Bool}(l:(aG[j]?).bind (·.dst)=some t)(n:nl L (.tmp t)=true)(hb:σ.env t=some v):(v=.bool iJ->yielded aG a.tmps j=some iJ)/\(v≠.bool iJ->yielded aG a.tmps j≠some iJ):=by
 have c:a.eval (.tmp t)=v:=r.get n hb;simp only[Act.eval,qBj]at c;unfold yielded;rw[l];show(_->(match a.tmps[t]? with | some (.bool b)=>some b | _=>none)=some iJ)/\(_->(match a.tmps[t]? with | some (.bool b)=>some b | _=>none)≠some iJ);cases h:a.tmps[t]? with
 | none=>
  rw[h]at c;refine⟨λe=>?_,λ_=>by simp⟩;rw[<-c]at e;simp[undef]at e
 | some u=>
  rw[h]at c;have c:u=v:=c;subst c;refine⟨λe=>by rw[e],λe=>?_⟩;split
  ·rename_i b hb;obtain rfl:=iN hb;intro g;exact e (by rw[iN g])
  simp
def F8{P:aY}{nr:Bool}{L:List (Nat×Nat)}{m:Nat}{aG:Array Oper}{Q:aL->Hp->Prop}(G:kM L=true->nr=true):∀{l:List Nat} {E:List NI} {σ:aL} {H Ha:Hp} {a:Act},Vq P L m aG l=some E->gV P E Q σ H->cX P L m σ H a Ha->lI P nr aG (Nx P L m Q) l a Ha
 | [],E,σ,H,Ha,a,s,h,r=>by simp only[Vq,aT]at s;subst s;exact⟨_,_,r,h⟩
 | i :: l,E,σ,H,Ha,a,s,h,r=>by
  simp only[Vq]at s;split at s
  ·rename_i x N c D;simp only[aT]at s;subst s;simp only[y5]at c;split at c
   ·simp at c
   rename_i o T;split at c
   ·simp at c
   rename_i op J;have q:op.w P o.dst (gV P N Q) σ H->fR P nr o a (lI P nr aG (Nx P L m Q) l) Ha:=by
    intro y;have key:∀F u,Nx P L m (gV P N Q) F u->lI P nr aG (Nx P L m Q) l F u:=λF u ⟨σ',W,U,I⟩=>F8 G D I U;refine(Zpl G J y r).imp (Vv ?_) (Zp.mono · λv H C=>key _ _ C);rintro n g V (A | B)
    ·exact .inl A
    refine .inr ?_;cases n with
    | enter f args=>exact Za.mono B (λv H C=>key _ _ C)
    | round Y f tmps aA X=>exact U6.mono B (λv H C=>key _ _ C)
    | value v=>exact key _ _ B
    | skip=>exact key _ _ B
    | defer d=>exact key _ _ B
    | _=>exact B.elim
   simp only[lI,T];split at c
   ·rename_i A;simp only[aT]at c;subst c;have y:Region.wanted o (yielded aG a.tmps)=true:=by simp[Region.wanted,A]
    simp only[y,qAH];exact q h
   rename_i j iJ A;split at c
   ·simp at c
   rename_i t K;split at c
   ·rename_i S;simp only[aT]at c;subst c;obtain⟨b,hb,O,R⟩:=h;have M:=ZoZ (iJ:=iJ) r K S hb;by_cases p:b=.bool iJ
    ·have y:Region.wanted o (yielded aG a.tmps)=true:=by simp[Region.wanted,A,M.1 p]
     simp only[y,qAH];exact q (O p)
    have y:Region.wanted o (yielded aG a.tmps)=false:=by simp[Region.wanted,A,M.2 p]
    simp only[y,dO,qAf];exact F8 G D (R p) (r.dR _)
   simp at c
  simp at s
end
variable{k:IntKind}
def Nw{G:Prop} (h:G:=by
  simp only[ZS]at h;simp only[gV];split at h
  ·exact⟨_,‹_›,λ_=>aR.jS (λσ H h=>ZS.n hq h) h,λe=>absurd rfl e⟩
  ·exact⟨_,‹_›,λe=>by simp at e,λ_=>ZS.n hq h⟩
  ·exact⟨_,‹_›,λe=>by simp at e,λ_=>ZS.n hq h⟩
  exact h.elim):G:=h
def aC(H:Hp)(a:Addr)(b:List Value):Prop:=a.spot=none/\∃o p,H a.block=some (o,p)/\∀j,j<b.length->Obj.fT o (a.off+j)=b[j]?
def kQ(z:Int):Prop:=-9223372036854775808<=z/\z<=9223372036854775807
def Ud{z:Int}(h:kQ z):IntKind.i64.wrap z=z:=by obtain⟨b,c⟩:=h;simp only[IntKind.wrap,IntKind.bits,IntKind.signed];simp;omega
def Va:IntKind->IntKind->Bool
 | .i8,.i8 | .i16,.i16 | .i32,.i32 | .i64,.i64 | .u8,.u8 | .u16,.u16 | .u32,.u32 | .u64,.u64=>true
 | _,_=>false
def ZuT{b:IntKind}(h:Va k b=true):k=b:=by cases k<;>cases b<;>simp_all[Va]
def EW(op:BinOp)(k:IntKind)(m n:Int)(K:Value->Prop):Prop:=
 match op,k with
 | .add,.i64=>kQ (m+n)/\K (.int .i64 (m+n))
 | .sub,.i64=>kQ (m-n)/\K (.int .i64 (m-n))
 | .mul,.i64=>kQ (m * n)/\K (.int .i64 (m * n))
 | .add,k=>K (.int k (k.wrap (m+n)))
 | .sub,k=>K (.int k (k.wrap (m-n)))
 | .mul,k=>K (.int k (k.wrap (m * n)))
 | .eql,_=>∀b:Bool,(b=true↔m=n)->K (.bool b)
 | .neq,_=>∀b:Bool,(b=true↔m≠n)->K (.bool b)
 | .lss,_=>∀b:Bool,(b=true↔m<n)->K (.bool b)
 | .leq,_=>∀b:Bool,(b=true↔m<=n)->K (.bool b)
 | .gtr,_=>∀b:Bool,(b=true↔m > n)->K (.bool b)
 | .geq,_=>∀b:Bool,(b=true↔m ≥ n)->K (.bool b)
 | _,_=>False
def Zzr{op:BinOp}{m n:Int}{K:Value->Prop}(h:EW op k m n K):∃v,rB op k m n=some v/\K v:=by
 cases op<;>simp only[EW]at h<;>try exact h.elim
 case add=>cases k<;>first | exact⟨_,rfl,h⟩ | (refine⟨_,rfl,?_⟩;rw[Ud h.1];exact h.2)
 case sub=>cases k<;>first | exact⟨_,rfl,h⟩ | (refine⟨_,rfl,?_⟩;rw[Ud h.1];exact h.2)
 case mul=>cases k<;>first | exact⟨_,rfl,h⟩ | (refine⟨_,rfl,?_⟩;rw[Ud h.1];exact h.2)
 all_goals exact⟨_,rfl,h _ (by simp)⟩
def Ztt(b:List Value)(off:Nat)(K:Value->Prop):Prop:=∃v,b[off]? = some v/\K v
def aR.m(P:aY)(op:aR)(dst:Option Nat)(next:aL->Hp->Prop)(σ:aL)(H:Hp):Prop:=
 match op with
 | .cV x=>match σ.get x with | some v=>next (σ.set dst v) H | none=>False
 | .pick c a b=>match σ.get c with
  | some (.bool true)=>match σ.get a with | some v=>next (σ.set dst v) H | none=>False
  | some (.bool false)=>match σ.get b with | some v=>next (σ.set dst v) H | none=>False
  | _=>False
 | .bC op x y=>match σ.get x,σ.get y with
  | some (.int k m),some (.int u n)=>match Va k u with
   | true=>EW op k m n λv=>next (σ.set dst v) H
   | false=>False
  | _,_=>False
 | .not x=>match σ.get x with | some (.bool true)=>next (σ.set dst (.bool false)) H | some (.bool false)=>next (σ.set dst (.bool true)) H | _=>False
 | .ext x i=>match σ.get x with
  | some (.tuple s)=>match s[i]? with | some v=>next (σ.set dst v) H | none=>False
  | _=>False
 | .iU off n x=>match σ.get x with
  | some (.agg h)=>match n with
   | none=>match h[off]? with | some v=>next (σ.set dst v) H | none=>False
   | some n=>next (σ.set dst (.agg ((h.toList.drop off).take n).toArray)) H
  | _=>False
 | .aU off x=>match σ.get x with | some (.pointer (some a))=>next (σ.set dst (.pointer (some (a.add off)))) H | _=>False
 | .bX p x i=>match σ.get x,σ.get i with
  | some (.slice A ln _),some (.int _ n)=>∃a,A=some a/\(0<=n/\n<(ln:Nat))/\next (σ.set dst (.pointer (some (a.add (n.toNat * p))))) H
  | _,_=>False
 | .ld n x=>P.still H.gh=false/\match σ.get x with
  | some (.pointer (some a))=>match n with
   | none=>∃v,aC H a [v]/\next (σ.set dst v) H
   | some n=>∃h:List Value,h.length=n/\aC H a h/\next (σ.set dst (.agg h.toArray)) H
  | _=>False
 | .len x=>match σ.get x with | some (.slice _ n _)=>next (σ.set dst (.int .i64 (Int.ofNat n))) H | _=>False
 | .aO d q z=>P.still H.gh=false/\next (((σ.drop q).set (some d) (.int .i64 (Int.ofNat 0))).put d z) H
 | .aS d q x=>P.still H.gh=false/\match σ.get x with
  | some (.agg h)=>next (((σ.drop q).set (some d) (.int .i64 (Int.ofNat 0))).put d h.toList) H
  | some v=>next (((σ.drop q).set (some d) (.int .i64 (Int.ofNat 0))).put d v.cells.toList) H
  | none=>False
 | .aV off t=>match σ.env t with | some (.int .i64 (.ofNat n))=>next (σ.set dst (.int .i64 (Int.ofNat (n+off)))) H | _=>False
 | .dA p ln t i=>match σ.env t,σ.get i with
  | some (.int .i64 (.ofNat n)),some (.int _ j)=>(0<=j/\j<(ln:Nat))/\next (σ.set dst (.int .i64 (Int.ofNat (n+j.toNat * p)))) H
  | _,_=>False
 | .cY d n t=>P.still H.gh=false/\match σ.env t,σ.box d with
  | some (.int .i64 (.ofNat off)),some h=>match n with
   | none=>Ztt h off λv=>next (σ.set dst v) H
   | some n=>match Nat.ble (off+n) h.length with
    | true=>next (σ.set dst (.agg ((h.drop off).take n).toArray)) H
    | false=>False
  | _,_=>False
 | .kE d n t x=>P.still H.gh=false/\match σ.env t,σ.box d,σ.get x with
  | some (.int .i64 (.ofNat off)),some h,some v=>(v.cells.size=n/\off+n<=h.length/\(v.cells.toList.all Value.bS)=true)/\next (σ.put d (ZZ h off v.cells.toList)) H
  | _,_,_=>False
 | .call f args=>match σ.dM args with
  | some s=>Za P f s.toArray H λv l=>next (σ.set dst v) l
  | none=>False
 | .build z ps=>match buildV σ ps z with | some h=>next (σ.set dst (.agg h.toArray)) H | none=>False
 | .aX e ln z ps=>P.still H.gh=false/\match buildV σ ps z with
  | some h=>∀r,H r=none->next (σ.set dst (.slice (some ⟨r,0,none⟩) ln ln)) (H.ins r (.cells h.toArray e))
  | none=>False
 | .raw op ty=>(op.operands.all λx=>(σ.get x).isSome)=true/\(bD P (execOp (λx=>(σ.get x).getD undef) (aN op ty)) (λn g l=>g=true\/pS P op dst next σ n l) false H \/
   Zp P (execOp (λx=>(σ.get x).getD undef) (aN op ty)) (Vw P (aN op ty)) false H λv l=>next (σ.set dst v) l)
 | .eQ op ty=>(op.operands.all λx=>(σ.get x).isSome)=true/\Zp P (execOp (λx=>(σ.get x).getD undef) (aN op ty)) (Vw P (aN op ty)) true H λv l=>next (σ.set dst v) l
 | .bT op ty=>(op.operands.all λx=>(σ.get x).isSome)=true/\∃v,hU P (execOp (λx=>(σ.get x).getD undef) (aN op ty)) v/\next (σ.set dst v) H
theorem aR.jS{P:aY}{op:aR}{dst:Option Nat}{next A:aL->Hp->Prop}{σ:aL}{H:Hp}(l:∀σ H,next σ H->A σ H)(h:op.m P dst next σ H):op.w P dst A σ H:=by
 cases op<;>simp only[aR.m]at h<;>simp only[aR.w]
 case cV x=>split at h;exact⟨_,‹_›,l _ _ h⟩;exact h.elim
 case pick c a b=>
  split at h
  ·split at h;exact⟨true,_,‹_›,‹_›,l _ _ h⟩;exact h.elim
  ·split at h;exact⟨false,_,‹_›,‹_›,l _ _ h⟩;exact h.elim
  ·exact h.elim
 case bC op x y=>
  split at h
  ·split at h
   ·rename_i J;obtain rfl:=ZuT J;obtain⟨v,q,s⟩:=Zzr h;exact⟨_,_,_,v,‹_›,‹_›,q,l _ _ s⟩
   exact h.elim
  ·exact h.elim
 case not x=>split at h;exact⟨true,‹_›,l _ _ h⟩;exact⟨false,‹_›,l _ _ h⟩;exact h.elim
 case ext x i=>
  split at h
  ·split at h;exact⟨_,_,‹_›,‹_›,l _ _ h⟩;exact h.elim
  ·exact h.elim
 case iU off n x=>
  split at h
  ·cases n with
   | none=>simp only at h;split at h;exact⟨_,‹_›,_,‹_›,l _ _ h⟩;exact h.elim
   | some n=>
    rename_i C M;refine⟨C,M,?_⟩;have:C.extract off (off+n)=((C.toList.drop off).take n).toArray:=by apply Array.ext';simp[Array.toList_extract]
    simp only;rw[this];exact l _ _ h
  ·exact h.elim
 case aU off x=>split at h;exact⟨_,‹_›,l _ _ h⟩;exact h.elim
 case bX dQ x i=>
  split at h
  ·obtain⟨a,rfl,q,s⟩:=h;exact⟨a,_,_,_,_,‹_›,‹_›,q.1,q.2,l _ _ s⟩
  ·exact h.elim
 case ld n x=>
  obtain⟨u,h⟩:=h
  refine⟨u,?_⟩
  split at h
  ·cases n with
   | none=>
    obtain⟨v,⟨q,o,p,s,B⟩,D⟩:=h;exact⟨_,o,p,‹_›,q,s,v,by simpa using B 0 (by simp),l _ _ D⟩
   | some n=>
    obtain⟨C,I,⟨q,o,p,s,B⟩,D⟩:=h;exact⟨_,o,p,‹_›,q,s,C,I,λj Q=>B j O,l _ _ D⟩
  ·exact h.elim
 case len x=>split at h;exact⟨_,_,_,‹_›,l _ _ h⟩;exact h.elim
 case aO d ts z=>exact⟨h.1,l _ _ h.2⟩
 case aS d ts x=>obtain⟨G,h⟩:=h;refine⟨G,?_⟩;split at h;exact⟨_,‹_›,l _ _ (by exact h)⟩;exact⟨_,‹_›,l _ _ (by exact h)⟩;exact h.elim
 case aV off t=>split at h;exact⟨_,‹_›,l _ _ h⟩;exact h.elim
 case dA dQ ln t i=>
  split at h
  ·exact⟨_,_,_,‹_›,‹_›,h.1.1,h.1.2,l _ _ h.2⟩
  ·exact h.elim
 case cY d n t=>
  obtain⟨u,h⟩:=h
  refine⟨u,?_⟩
  split at h
  ·cases n with
   | none=>obtain⟨v,q,s⟩:=h;exact⟨_,_,‹_›,‹_›,v,q,l _ _ s⟩
   | some n=>
    simp only at h;split at h
    ·rename_i F;exact⟨_,_,‹_›,‹_›,qBI F,l _ _ h⟩
    exact h.elim
  ·exact h.elim
 case kE d n t x=>
  obtain⟨u,h⟩:=h
  refine⟨u,?_⟩
  split at h
  ·obtain⟨⟨q,s,B⟩,D⟩:=h;refine⟨_,_,_,‹_›,‹_›,‹_›,q,s,B,?_⟩;have:=l _ _ D;unfold ZZ at this;rw[qCn,q]at this;exact this
  ·exact h.elim
 case call f args=>
  split at h
  ·exact⟨_,‹_›,Za.mono h λv H E=>l _ _ E⟩
  ·exact h.elim
 case build z ps=>split at h;exact⟨_,‹_›,l _ _ h⟩;exact h.elim
 case aX e ln z ps=>obtain⟨G,h⟩:=h;refine⟨G,?_⟩;split at h;exact⟨_,‹_›,λr K=>l _ _ (h r K)⟩;exact h.elim
 case eQ op ty=>exact⟨h.1,h.2.mono λv H E=>l _ _ E⟩
 case bT op ty=>obtain⟨q,v,s,B⟩:=h;exact⟨q,v,s,l _ _ B⟩
 case raw op ty=>
  refine⟨h.1,h.2.imp (Vv λn g N h=>h.imp id (pS.mono l)) (Zp.mono · λv H E=>l _ _ E)⟩
def ZS(P:aY):List NI->(aL->Hp->Prop)->aL->Hp->Prop
 | [],Q,σ,H=>Q σ H
 | ⟨none,d,op⟩ :: r,Q,σ,H=>op.m P d (ZS P r Q) σ H
 | ⟨some (t,true),d,op⟩ :: r,Q,σ,H=>match σ.env t with
  | some (.bool true)=>op.m P d (ZS P r Q) σ H
  | some (.bool false)=>ZS P r Q (σ.dR d) H
  | some (.tuple _)=>ZS P r Q (σ.dR d) H
  | _=>False
 | ⟨some (t,false),d,op⟩ :: r,Q,σ,H=>match σ.env t with
  | some (.bool false)=>op.m P d (ZS P r Q) σ H
  | some (.bool true)=>ZS P r Q (σ.dR d) H
  | some (.tuple _)=>ZS P r Q (σ.dR d) H
  | _=>False
def ZS.n{P:aY}{Q b:aL->Hp->Prop}(hq:∀σ H,Q σ H->b σ H):∀{l:List NI} {σ:aL} {H:Hp},ZS P l Q σ H->gV P l b σ H
 | [],σ,H,h=>hq _ _ h
 | ⟨none,d,op⟩ :: r,σ,H,h=>aR.jS (λσ H h=>ZS.n hq h) h
 | ⟨some (t,true),d,op⟩ :: r,σ,H,h=>by exact Nw
 | ⟨some (t,false),d,op⟩ :: r,σ,H,h=>by exact Nw
