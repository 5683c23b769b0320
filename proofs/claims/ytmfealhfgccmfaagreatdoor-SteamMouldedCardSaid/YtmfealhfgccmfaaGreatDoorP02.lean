import Derived.Test.YtmfealhfgccmfaaGreatDoorP01
set_option linter.all false
def xX{G:Prop}(h:G:=by simp only[IntKind.wrap,IntKind.bits,IntKind.signed];simp;omega):G:=h
def TZ{G:Prop}(h:G:=by
  simp only[ZW]at h;simp only[pU];split at h
  ·exact⟨_,‹_›,λ_=>fR.s9 (λσ H h=>ZW.n hq h) h,λe=>absurd rfl e⟩
  ·exact⟨_,‹_›,λe=>by simp at e,λ_=>ZW.n hq h⟩
  ·exact⟨_,‹_›,λe=>by simp at e,λ_=>ZW.n hq h⟩
  exact h.elim):G:=h
def TV{G:Prop}(h:G:=by show execOp a.eval (fL o.op o.type)=_;refine ZfK (o:=fL o.op o.type) (λx RO=>?_) hs;have:=qAn.1 h1 x RO;obtain⟨v,hv⟩:=qBR.1 this;rw[hv];exact r.get (hx x RO) hv):G:=h
def TQ{G:Prop}(h:G:=by
  exact Uv ho (by simp) (λz hz=>by
   simp only[Op.operands]at hz;simp only[qAk,qAi,qBD,qCV]at hz;rcases hz with rfl | rfl
   ·exact h1.2
   exact hi) h1.1 h r):G:=h
def S6{G:Prop}(h:G:=by rintro v HF ⟨H',rfl,hc,hn⟩;have r':iI P L m σ H' a (H'.join K):=⟨r.size,r.defers,ρ,K,rfl,hc,e3,e4,e5,e6⟩;exact⟨_,_,r'.set hd v,hn⟩):G:=h
namespace Go.LL
section
variable{t:TypeId}{d s:Nat}{i:TypeInfo}{x:Operand}
section lJ
variable{P:fP}{nr:Bool}{L:List (Nat×Nat)}{m:Nat}{o:Oper}{next:fG->Hp->Prop}{σ:fG}{H Ha:Hp}{a:Act}{op:fR}
def Zpd{z:Value}(n:o.op=.alloc t)(g:o.dst=some d)(c:L.lookup d=some d)(l:d<m)(j:P.info? t=some i)(q:i.zero=some z)
  (h:(fR.eC d (J3 L d) z.cells.toList).w P o.dst next σ H) (r:iI P L m σ H a Ha):nI P nr o a (Nx P L m next) Ha:=by
 obtain⟨p,h⟩:=h;refine VK (s:=Instr.alloc t true (.tuple #[])) (by simp[execOp,n]) ?_;simp only[Instr.alloc,Zf,Us j q];simp only[newVar,newRow,Zf,newObj];refine⟨r.fD p,λb hb=>?_⟩;rw[g];refine .inr ⟨_,_,?_,h⟩;have:=r.RF c l hb z.cells.toList t;simpa using this
def Zpj(p:o.op=.box t x)(l:o.dst=some d)(j:L.lookup d=some d)(n:d<m)(u:nl L x=true)
  (h:(fR.eE d (J3 L d) x).w P o.dst next σ H) (r:iI P L m σ H a Ha):nI P nr o a (Nx P L m next) Ha:=by
 obtain⟨q,v,c,g⟩:=h;refine VK (s:=Instr.box t v) (by simp[execOp,p,r.get u c]) ?_;simp only[Instr.box,Zf,newVar,newRow,newObj];refine⟨r.fD q,λb hb=>?_⟩;rw[l];refine .inr ⟨_,_,?_,g⟩;have:=r.RF j n hb v.cells.toList t;simpa using this
def iI.place{P:PQ}{L:List (Nat×Nat)}{m:Nat}{σ:fG}{H:Hp}{a:Act}{Ha:Hp}(r:iI P L m σ H a Ha){n:Nat}{cs:List Value}(v:L.lookup s=some d)(u:σ.env s=some (.int .i64 (n:Nat)))(hb:σ.box d=some cs) :
  ∃b t,a.tmps.getD s undef=.pointer (some ⟨b,n,none⟩)/\Ha b=some (.cells cs.toArray t (0,0),true):=by
 obtain⟨ρ,K,h,j,l,y,p,A⟩:=r.mem;have c:=p s _ u;unfold V5 at c;rw[v]at c;obtain⟨off,g,q⟩:=c.resolve_left (by simp[undef]);simp only[Value.int.injEq,qEa,Int.ofNat_inj]at g;subst g;obtain⟨t,w⟩:=l d cs hb;exact⟨ρ d,t,q,by rw[h];exact Hp.fS j w⟩
def Zpf{n:Option Nat}(M:o.op=.load t (.tmp s))(G:Ym P t=some n)(O:L.lookup s=some d)(E:kX L m o.dst=true)(h:(fR.gO d n s).w P o.dst next σ H)(r:iI P L m σ H a Ha):nI P nr o a (Nx P L m next) Ha:=by
 obtain⟨p,off,B,J,K,C⟩:=h;obtain⟨b,R,u,l⟩:=r.place O J K;refine VK (s:=Instr.loadAt t (.pointer (some ⟨b,off,none⟩))) (by simp only[execOp,M,Act.eval,u]) ?_;simp only[Instr.loadAt,Instr.sureAddr,Zf,Zj,loadVar];cases n with
 | none=>
  obtain⟨v,D,q⟩:=C;rw[OW G];simp only[oR,qAq];exact⟨_,_,v,⟨r.fD p,l⟩,rfl,rfl,by simpa[Obj.nC]using D,.inr ⟨_,_,r.set E _,q⟩⟩
 | some n=>
  obtain⟨D,q⟩:=C;obtain⟨Q,y,A,N⟩:=PN G;rw[N];simp only[qBb,Zf,Yc y,Zj,A,loadCells];have c:((B.drop off).take n).length=n:=by simp;omega
  have:=PY (P:=P) (a:=⟨b,off,none⟩) (r.fD p) l rfl (λv g I=>g=true\/Nx P L m next (put a o.dst (.agg v)) I) false ((B.drop off).take n) 0 #[] (λj F=>by simp only[Obj.nC,qAJ,qAM];rw[qBv,qBq,qAa (by rw[c]at F;exact F)]) (.inr ⟨_,_,by simpa using r.set E _,q⟩);rw[c]at this;exact this
def MX{P:PQ}{b:Nat}{t:TypeId}(Q:Unit->Bool->Hp->Prop)(g:Bool):∀(j:List Value) (off i:Nat) (c:List Value) (H:Hp),P.still H.gh=false->H b=some (.cells c.toArray t (0,0),true)->(j.all Value.gM)=true->off+i+j.length<=c.length ->
  Q () g (H.ins b (.cells (c.take (off+i)++j++c.drop (off+i+j.length)).toArray t (0,0)))->fZ P (storeCells ⟨b,off,none⟩ j i) Q g H
 | [],off,i,c,H,_,hb,_,_,h=>by
  have:H.ins b (.cells (c.take (off+i)++[]++c.drop (off+i+([]:List Value).length)).toArray t (0,0))=H:=by
   refine Hp.ext' (λx=>?_) rfl;by_cases p:x=b
   ·subst p;simp[Hp.iG,hb]
   rw[Hp.aR _ _ p]
  rw[this]at h;exact h
 | v :: j,off,i,c,H,n,hb,q,y,h=>by
  simp only[List.all_cons,qAc]at q;simp only[qAF]at y;simp only[storeCells,Zf,store];have w:(⟨b,off,none⟩:Addr).add i=⟨b,off+i,none⟩:=by rw[PE rfl]
  rw[w];have r:off+i<c.length:=O;refine⟨_,⟨n,hb⟩,rfl,rfl,q.1,?_,by simp[Obj.mU],?_⟩
  ·simp[Obj.nC,r]
  have e:Obj.put (.cells c.toArray t (0,0)) (off+i) v=.cells (c.set (off+i) v).toArray t (0,0):=by simp[Obj.put]
  rw[e];refine MX Q g j off (i+1) (c.set (off+i) v) _ n (Hp.aQ _ _ _) q.2 (by simp;omega) ?_;have u:(H.ins b (.cells (c.set (off+i) v).toArray t (0,0))).ins b (.cells ((c.set (off+i) v).take (off+(i+1))++j++(c.set (off+i) v).drop (off+(i+1)+j.length)).toArray t (0,0))=H.ins b (.cells (c.take (off+i)++(v :: j)++c.drop (off+i+(v :: j).length)).toArray t (0,0)):=by
   refine Hp.ext' (λx=>?_) rfl;by_cases p:x=b
   ·subst p;simp only[Hp.aQ,IF,qAX,qCw,Obj.cells.injEq];refine qAx List.toArray ?_;rw[List.drop_set_of_lt O];have:(c.set (off+i) v).take (off+(i+1))=c.take (off+i)++[v]:=by rw[<-qCW,BY (by simp;omega)];rw[qCY O];simp
    rw[this];simp only[qAE,qDy,qAF];congr 3;omega
   simp only[Hp.aR _ _ p]
  rw[u];exact h
def Zpe(ho:o.op=.store t (.tmp s) x)(hi:P.info? t=some i)(hs:L.lookup s=some d)(hx:nl L x=true)(hd:o.dst=none)(h:(fR.tS d i.size s x).w P o.dst next σ H)(r:iI P L m σ H a Ha):nI P nr o a (Nx P L m next) Ha:=by
 obtain⟨N,off,j,v,Y,q,Z,V,h5,h6,h7⟩:=h;obtain⟨ρ,K,R,I,S,T,U,X⟩:=r.mem;have J:=U s _ Y;unfold V5 at J;rw[hs]at J;obtain⟨W,p,hp⟩:=J.resolve_left (by simp[undef]);simp only[Value.int.injEq,qEa,Int.ofNat_inj]at p;subst p;obtain⟨Q,u⟩:=S d j q;have M:Ha (ρ d)=some (.cells j.toArray Q (0,0),true):=by rw[R];exact Hp.fS I u
 refine .inl ?_;have:execOp a.eval o=(do (Instr.storeAt t (.pointer (some ⟨ρ d,off,none⟩)) v);pure .skip:Sem Next):=by simp only[execOp,ho,r.get hx Z];simp only[Act.eval,hp]
 rw[this,Zf];simp only[Instr.storeAt,Instr.sureAddr,Zf,Zj,storeVar,Yc hi,V,ne_eq,not_true_eq_false,qAq];refine MX _ _ v.cells.toList off 0 j Ha (r.fD N) M h6 (by simp only[qCA];omega) ?_;refine .inr ⟨σ.put d (j.take off++v.cells.toList++j.drop (off+i.size)),H,?_,h7⟩;rw[hd];have hH:H (ρ d)=none:=I.left_none u;refine⟨r.size,r.defers,ρ,K.ins (ρ d) (.cells (j.take off++v.cells.toList++j.drop (off+i.size)).toArray Q (0,0)),?_,?_,?_,?_,U,X.ins λo' h=>by rw[u]at h;simp at h;rintro c rfl;simp at h⟩
 ·rw[R];refine Hp.ext' (λy=>?_) rfl;simp only[Hp.fW,Hp.iG];by_cases g:y=ρ d
  ·subst g;simp[hH,<-V]
  simp[g]
 ·exact((I.symm).mT u).symm
 ·intro E n l;simp only[fG.put]at l;by_cases g:E=d
  ·subst g;simp at l;subst l;exact⟨Q,by simp[Hp.iG]⟩
  rw[Uo g]at l;obtain⟨t',h9⟩:=S E n l;exact⟨t',by rw[Hp.aR _ _ (λe=>g (T E d n j l q e))];exact h9⟩
 intro F G c1 c2 k1 O k3;have A:∃c,σ.box F=some c:=by
  simp only[fG.put]at k1;by_cases g:F=d
  ·rw[g];exact⟨_,q⟩
  rw[Uo g]at k1;exact⟨_,k1⟩
 have B:∃c,σ.box G=some c:=by
  simp only[fG.put]at O;by_cases g:G=d
  ·rw[g];exact⟨_,q⟩
  rw[Uo g]at O;exact⟨_,O⟩
 obtain⟨C,A⟩:=A;obtain⟨D,B⟩:=B;exact T F G C D A B k3
end lJ
end
section
variable{ρ ρ':Operand->Value}{f:FuncId}{xO:Op}{ps:Array (Nat×Operand)}{t e:TypeId}{i ie:TypeInfo}{z:Value}{qs:List (Nat×Nat×Operand)}
def Zf6{xs:Array Operand}(h:∀x∈xs,ρ x=ρ' x):xs.map ρ=xs.map ρ':=Array.map_congr_left h
def Zna{xs:Array (Nat×Operand)}(h:∀x∈(xs.toList.map (·.2)).toArray,ρ x=ρ' x):(xs.map λ(i,x)=>(i,ρ x))=xs.map λ(i,x)=>(i,ρ' x):=by refine Array.map_congr_left λp c=>?_;have:=h p.2 (by simp only[qAk,qAy];exact⟨p,qAS.2 c,rfl⟩);simp[this]
def Ky{x:Option Operand}(h:∀y∈x.toArray,ρ y=ρ' y):x.map ρ=x.map ρ':=by
 cases x with
 | none=>rfl
 | some y=>simp[h y (by simp)]
def ZeO{c:Call}(t:TypeId)(h:∀x∈c.operands,ρ x=ρ' x):resolve ρ c t=resolve ρ' c t:=by
 obtain⟨g,args,p⟩:=c;have j:args.map ρ=args.map ρ':=Zf6 λx l=>h x (by simp[Call.operands,l]);unfold resolve;cases g with
 | builtin b=>simp only[j]
 | invoke r n=>simp only[j,h r (by simp[Call.operands])]
 | value f=>simp only[j,h f (by simp[Call.operands])]
def ZfK{o:Oper}(h:∀x∈o.op.operands,ρ x=ρ' x)(u:∀j b,o.op≠.select j b):execOp ρ o=execOp ρ' o:=by
 obtain⟨dst,op,ty,pos,after,guard⟩:=o;unfold execOp;simp only at h ⊢;cases op with
 | build t ps=>simp only[Zna (xs:=ps) (by simpa[Op.operands]using h)]
 | buildSlice t n ps=>simp only[Zna (xs:=ps) (by simpa[Op.operands]using h)]
 | makeFunc fn f c=>simp only[Zf6 (xs:=f) (λx p=>h x (by simp[Op.operands,p])),Zf6 (xs:=c) (λx p=>h x (by simp[Op.operands,p]))]
 | makeMap t r=>simp only[Ky (x:=r) (λy g=>h y (by simpa[Op.operands]using g))]
 | slice t x l q v=>
  simp only[h x (by simp[Op.operands]),Ky (x:=l) (λy g=>h y (by simp only[Op.operands,qBe];exact .inl (.inl (.inr g)))),
   Ky (x:=q) (λy g=>h y (by simp only[Op.operands,qBe];exact .inl (.inr g))),Ky (x:=v) (λy g=>h y (by simp only[Op.operands,qBe];exact .inr g))]
 | call c=>simp only[ZeO _ h]
 | go c=>simp only[ZeO _ h]
 | defer c=>simp only[ZeO _ h]
 | select j b=>exact absurd rfl (u j b)
 | _=>simp_all[Op.operands]
section lJ
variable{P:fP}{nr:Bool}{L:List (Nat×Nat)}{m:Nat}{o:Oper}{next:fG->Hp->Prop}{σ:fG}{H Ha:Hp}{a:Act}{op:fR}
def iI.gets{P:PQ}{L:List (Nat×Nat)}{m:Nat}{σ:fG}{H:Hp}{a:Act}{Ha:Hp}(r:iI P L m σ H a Ha):∀{xs:List Operand} {c:List Value},(∀x∈xs,nl L x=true)->σ.gets xs=some c->xs.map a.eval=c
 | [],c,_,h=>by simpa[fG.gets]using h
 | x :: xs,c,j,h=>by
  simp only[fG.gets]at h;cases h1:σ.get x with
  | none=>simp[h1]at h
  | some v=>
   cases g:σ.gets xs with
   | none=>simp[h1,g]at h
   | some n=>
    simp[h1,g]at h;subst h;simp[r.get (j x (by simp)) h1,r.gets (λy l=>j y (by simp[l])) g]
def Zb.rel{l:Array Value}{c:Value->Hp->Prop}(h:Zb P f l H c)(r:iI P L m σ H a Ha):Zb P f l Ha (λv j=>∃g,iI P L m σ g a j/\c v g):=by obtain⟨ρ,K,n,p,q,u,w,y⟩:=r.mem;rw[n];refine(h.frame p).mono ?_;rintro v C ⟨g,rfl,A,B⟩;exact⟨g,⟨r.size,r.defers,ρ,K,rfl,A,q,u,w,y⟩,B⟩
def Zpn{args:Array Operand}{F:Array TypeId}{fn:Func}(C:o.op=.call { callee:=.value (.func f),args:=args,argTypes:=F })(A:P.funcs[f]? = some fn)(hb:fn.body.isSome=true)(g:(fn.name == "runtime.NumGoroutine")=false)
  (D:∀x∈args.toList,nl L x=true) (y:kX L m o.dst=true) (h:(fR.call f args.toList).w P o.dst next σ H) (r:iI P L m σ H a Ha):nI P nr o a (Nx P L m next) Ha:=by
 obtain⟨j,q,u⟩:=h;have l:=r.gets D q;have p:args.map a.eval=j.toArray:=by obtain⟨args⟩:=args;simp only[qBS];simp only at l;rw[l]
 refine .inl ?_;have:execOp a.eval o=callFunc f (j.toArray++#[]):=by simp[execOp,C,resolve,invoke,p,Act.eval,Deferred.ofValue]
 rw[this];simp only[callFunc,Zf,Vw,A,g,oR,qAq];have c:fn.body.isNone=false:=by simpa using hb
 simp only[c,oR,qAq,Zj];refine .inr ?_;show Zb P f (j.toArray++#[]) Ha _;rw[qAw];refine(u.rel r).mono ?_;rintro v n ⟨G,E,B⟩;exact⟨_,_,E.set y v,B⟩
def Uv(u:o.op=xO)(hs:∀D b,xO≠.select D b)(hx:∀x∈xO.operands,nl L x=true)(hd:kX L m o.dst=true)(h:(fR.raw xO o.type).w P o.dst next σ H)(r:iI P L m σ H a Ha):nI P nr o a (Nx P L m next) Ha:=by
 subst u;obtain⟨h1,p⟩:=h;have e:execOp a.eval o=execOp (λx=>(σ.get x).getD undef) (fL o.op o.type):=by exact TV
 obtain⟨ρ,K,y,A,e3,e4,e5,e6⟩:=r.mem;rcases p with p | p;case inr=>
  refine .inr ?_
  rw[e,show Vo P o=Vo P (fL o.op o.type)from rfl,y]
  refine(p.any.frame A).mono ?_
  exact S6
 refine .inl ?_;rw[e,y];refine Vx ?_ (Ni p A);rintro n g HF ⟨H',rfl,hc,E | hn⟩
 ·exact .inl E
 have r':iI P L m σ H' a (H'.join K):=⟨r.size,r.defers,ρ,K,rfl,hc,e3,e4,e5,e6⟩;refine .inr ?_;cases n with
 | value v=>exact⟨_,_,r'.set hd v,hn⟩
 | skip=>exact⟨_,_,r'.set hd undef,hn⟩
 | enter f args=>
  refine(Zb.rel hn r').mono ?_;rintro v C ⟨c,j,hn⟩;exact⟨_,_,j.set hd v,hn⟩
 | round l f tmps aA F=>
  refine(U4.frame hn hc).mono ?_;rintro v HF ⟨c,rfl,q,hn⟩;have j:iI P L m σ c a (c.join K):=⟨r.size,r.defers,ρ,K,rfl,q,e3,e4,e5,e6⟩;exact⟨_,_,j.set hd v,hn⟩
 | defer d=>
  obtain⟨_,B,hn⟩:=hn;refine⟨_,_,iI.set (a:={ a with defers:=d :: a.defers }) (σ:={ σ with gR:=d :: σ.gR }) ⟨r.size,?_,ρ,K,rfl,hc,e3,e4,e5,e6.plain B⟩ hd undef,hn⟩;simp only[OE,B,oR,qAq];rw[r.defers]
 | _=>exact hn.elim
def Zpa(c:nr=true)(g:o.op=xO)(hs:∀j b,xO≠.select j b)(hx:∀x∈xO.operands,nl L x=true)(hd:kX L m o.dst=true)(h:(fR.lV xO o.type).w P o.dst next σ H)(r:iI P L m σ H a Ha):nI P nr o a (Nx P L m next) Ha:=by
 subst g;subst c;obtain⟨h1,p⟩:=h;have e:execOp a.eval o=execOp (λx=>(σ.get x).getD undef) (fL o.op o.type):=by exact TV
 obtain⟨ρ,K,l,n,e3,e4,e5,e6⟩:=r.mem;refine .inr ?_;rw[e,show Vo P o=Vo P (fL o.op o.type)from rfl,l];refine(p.frame n).mono ?_;exact S6
def Zl2:∀(g:List Value) (off k:Nat) (z:List Value),off+k+g.length<=z.length ->
  ((g.zipIdx k).foldl (λl (c,j)=>l.setIfInBounds (off+j) c) z.toArray)=(ZR z (off+k) g).toArray
 | [],off,k,z,_=>by simp[ZR]
 | v :: g,off,k,z,h=>by
  simp only[qAF]at h;simp only[List.zipIdx_cons,qBG,List.setIfInBounds_toArray];have:=Zl2 g off (k+1) (z.set (off+k) v) (by simp;omega);rw[this];congr 1;unfold ZR;have n:(z.set (off+k) v).take (off+(k+1))=z.take (off+k)++[v]:=by rw[<-qCW,BY (by simp;omega),qCY O];simp
  have p:(z.set (off+k) v).drop (off+(k+1)+g.length)=z.drop (off+k+(g.length+1)):=by rw[List.drop_set_of_lt O];congr 1;omega
  rw[n,p];simp
def Lu{place:Nat->Option (Nat×Nat)}(r:iI P L m σ H a Ha):∀{ps:List (Nat×Operand)} {qs:List (Nat×Nat×Operand)} {z h:List Value},UN place ps=some qs->(∀p∈ps,nl L p.2=true)->buildV σ qs z=some h ->
  Instr.fill place z.toArray (ps.map λp=>(p.1,a.eval p.2))=some h.toArray
 | [],qs,z,h,g,_,hb=>by simp only[UN,IF]at g;subst g;simp only[buildV,IF]at hb;subst hb;rfl
 | (i,x) :: ps,qs,z,h,g,n,hb=>by
  simp only[UN]at g;split at g
  ·rename_i off l B q u;simp only[IF]at g;subst g;simp only[buildV]at hb;split at hb
   ·rename_i v A;have e:=r.get (n (i,x) (by simp)) A;simp only[qBm,Instr.fill,q,e];cases hc:(Nat.beq v.cells.size l && Nat.ble (off+l) z.length)with
    | false=>rw[hc]at hb;simp at hb
    | true=>
     rw[hc]at hb;simp only[qAc]at hc;have c1:v.cells.size=l:=qBs hc.1;have c2:off+l<=z.length:=qCp hc.2;have:(decide (v.cells.size≠l) || decide (off+v.cells.size > z.toArray.size))=false:=by simp[c1];omega
     rw[this];simp only[oR,qAq];have w:v.cells.zipIdx.foldl (λh (c,j)=>h.setIfInBounds (off+j) c) z.toArray=(ZR z off v.cells.toList).toArray:=by have:=Zl2 v.cells.toList off 0 z (by simp only[qCA];omega);rw[qCg]at this;rw[<-this,<-qDk,Array.toList_zipIdx]
     rw[w];exact Lu r u (λp y=>n p (by simp[y])) hb
   simp at hb
  simp at g
def Ze1:(ps.map λ(i,x)=>(i,a.eval x)).toList=ps.toList.map λp=>(p.1,a.eval p.2):=by simp
def Zun{c:List Field}(h:∀f∈c,(P.info? f.type).isSome=true)(Q:List (Nat×Nat)->Bool->Hp->Prop)(g:Bool)(H:Hp)
  (p:∀ps:List (Nat×Nat),(∀i:Nat,ps[i]? = match c[i]? with | some (f:Field)=>(match P.info? f.type with | some i=>some (f.offset,i.size) | none=>none) | none=>none)->Q ps g H) :
  fZ P (c.mapM λ(f:Field)=>do pure (f.offset,<-sizeOf f.type)) Q g H:=by
 induction c generalizing Q with
 | nil=>exact p [] (by simp)
 | cons f c ih=>
  obtain⟨i,n⟩:=qBR.1 (h f (by simp));rw[List.mapM_cons,Zf,Zf,Yc n];simp only[Zj];rw[Zf];refine ih (λf q=>h f (by simp[q])) _ λps l=>?_;simp only[Zj];refine p _ λj=>?_;cases j with
  | zero=>simp[n]
  | succ j=>simp[l j]
def Zpq{g:Array Field}(B:o.op=.build t ps)(E:P.underlying t=some (.struct g))(y:P.info? t=some i)(G:i.zero=some z)(A:ZlD P g=true)
  (D:UN (Mr P g) ps.toList=some qs) (F:(ps.all λp=>nl L p.2)=true) (u:kX L m o.dst=true) (h:(fR.build z.cells.toList qs).w P o.dst next σ H) (r:iI P L m σ H a Ha):nI P nr o a (Nx P L m next) Ha:=by
 obtain⟨I,n,q⟩:=h;refine VK (s:=Instr.build t (ps.map λ(i,x)=>(i,a.eval x))) (by simp[execOp,B]) ?_;simp only[Instr.build,Zf,Us y G,ZA E];obtain⟨g⟩:=g;rw[List.mapM_toArray,map_eq_pure_bind,Zf];refine Zun (λf v=>qAn.1 A f (by simpa using v)) _ _ _ λls j=>?_;simp only[Zj];have l:(λx=>ls.toArray[x]?)=Mr P ⟨g⟩:=by
  funext x;simp only[qAM,j x,Mr];cases g[x]? with
  | none=>rfl
  | some f=>cases P.info? f.type<;>rfl
 have c:=Lu r D (λp C=>qAn.1 F p (qAS.1 C)) n;rw[<-Ze1,<-l]at c;simp only[qBT]at c;rw[c];exact .inr ⟨_,_,r.set u _,q⟩
def Zpp{n:Nat}(v:o.op=.build t ps)(B:P.underlying t=some (.array n e))(u:P.info? t=some i)(D:i.zero=some z)(q:P.info? e=some ie)
  (A:UN (λk=>some (k * ie.size,ie.size)) ps.toList=some qs) (C:(ps.all λp=>nl L p.2)=true) (l:kX L m o.dst=true) (h:(fR.build z.cells.toList qs).w P o.dst next σ H) (r:iI P L m σ H a Ha):nI P nr o a (Nx P L m next) Ha:=by
 obtain⟨E,g,j⟩:=h;refine VK (s:=Instr.build t (ps.map λ(i,x)=>(i,a.eval x))) (by simp[execOp,v]) ?_;simp only[Instr.build,Zf,Us u D,ZA B,Yc q];have c:=Lu r A (λp y=>qAn.1 C p (qAS.1 y)) g;rw[<-Ze1]at c;simp only[qBT]at c;rw[c];exact .inr ⟨_,_,r.set l _,j⟩
def Zpo{len:Nat}(G:o.op=.buildSlice t len ps)(N:P.underlying t=some (.slice e))(q:P.info? e=some ie)(R:ie.zero=some z)(F:len * ie.size<=2 ^ 24)(l:¬ len * ie.size=0)
  (J:UN (λk=>some (k * ie.size,ie.size)) ps.toList=some qs) (Q:(ps.all λp=>nl L p.2)=true) (E:kX L m o.dst=true)
  (h:(fR.fJ e len ((Array.range (len * ie.size)).map (z.cells[· % z.cells.size]!)).toList qs).w P o.dst next σ H) (r:iI P L m σ H a Ha):nI P nr o a (Nx P L m next) Ha:=by
 obtain⟨M,S,C,D⟩:=h;refine VK (s:=Instr.buildSlice t len (ps.map λ(i,x)=>(i,a.eval x))) (by simp[execOp,G]) ?_;simp only[Instr.buildSlice,Zf,ZA N,Yc q];have:¬ (len * ie.size > 2 ^ 24):=O;simp only[this,qAq,l,Zf,Us q R,Zj];have c:=Lu r J (λp I=>qAn.1 Q p (qAS.1 I)) C;rw[<-Ze1]at c;simp only[qBT]at c;rw[c];simp only[newRow,Zf,newObj,Zj];refine⟨r.fD M,λb hb=>?_⟩;obtain⟨ρ,K,n,u,v,y,A,B⟩:=r.mem;rw[n]at hb;obtain⟨g,j⟩:=Hp.hQ.1 hb;refine .inr ⟨_,_,iI.set ?_ E _,D b g⟩;exact⟨r.size,r.defers,ρ,K,by rw[n,<-Hp.mS],u.kW _ j,v,y,A,B⟩
end lJ
end
section
variable{α:Type}{b:Bool}{ty:TypeId}{d:Option Nat}
section lJ
variable{P:fP}{nr:Bool}{L:List (Nat×Nat)}{m:Nat}{o:Oper}{next:fG->Hp->Prop}{σ:fG}{H Ha:Hp}{a:Act}{op:fR}
def Zvh{x:Option α}{y:α}(h:(if b=true then x else none)=some y):b=true/\x=some y:=by
 split at h
 ·exact⟨‹_›,h⟩
 simp at h
def YM{x y:α}(h:(if b=true then some x else none)=some y):b=true/\x=y:=by cases b<;>simp_all
def ZsA{op:Op}(h:(fR.gE op ty).w P d next σ H):(fR.raw op ty).w P d next σ H:=by obtain⟨c,v,g,j⟩:=h;exact⟨c,.inl (g _ _ _ (.inr j))⟩
def ZhO{op:Op}(h:(OD P L op ty).w P d next σ H):(fR.raw op ty).w P d next σ H:=by
 unfold OD at h;split at h
 ·exact ZsA h
 exact h
def Zeo{xO:Op}(g:o.op=xO)(l:∀j b,xO≠.select j b)(n:(if(xO.operands.all (nl L)) && kX L m o.dst then some (OD P L xO o.type)else none)=some op)(h:op.w P o.dst next σ H)(r:iI P L m σ H a Ha):nI P nr o a (Nx P L m next) Ha:=by obtain⟨c,rfl⟩:=YM n;simp only[qAc]at c;exact Uv g l (λx p=>qAn.1 c.1 x p) c.2 (ZhO h) r
def Zoa(M:tI L=true->nr=true)(g:Yt P L m o=some op)(h:op.w P o.dst next σ H)(r:iI P L m σ H a Ha):nI P nr o a (Nx P L m next) Ha:=by
 cases ho:o.op with
 | move x=>
  simp only[Yt,ho]at g;obtain⟨h1,rfl⟩:=YM g;simp only[qAc]at h1;exact Zhh (.inl ho) h1.1 h1.2 h r
 | assign x=>
  simp only[Yt,ho]at g;obtain⟨h1,rfl⟩:=YM g;simp only[qAc]at h1;exact Zhh (.inr ho) h1.1 h1.2 h r
 | pick c x y=>
  simp only[Yt,ho]at g;obtain⟨h1,rfl⟩:=YM g;simp only[qAc]at h1;exact Zpb ho h1.1.1.1 h1.1.1.2 h1.1.2 h1.2 h r
 | unOp u t x=>
  cases u with
  | not=>
   simp only[Yt,ho]at g;obtain⟨h1,rfl⟩:=YM g;simp only[qAc]at h1;exact Zpc ho h1.1 h1.2 h r
  | _=>simp only[Yt,ho]at g;exact Zeo ho (by simp) g h r
 | binOp b t x y ty=>
  simp only[Yt,ho]at g;split at g
  ·rename_i h1;simp only[qAc]at h1;have E:∀{op},OD P L (.binOp b t x y ty) o.type=op->op.w P o.dst next σ H->nI P nr o a (Nx P L m next) Ha:=by
    rintro op rfl h;exact Uv ho (by simp) (λz hz=>by
     simp only[Op.operands]at hz;simp only[qAk,qAi,qBD,qCV]at hz;rcases hz with rfl | rfl
     ·exact h1.1.1
     exact h1.1.2) h1.2 (ZhO h) r
   split at g
   ·split at g
    ·simp only[IF]at g;subst g;exact Zpr ho h1.1.1 h1.1.2 h1.2 h r
    exact E (aT g) h
   exact E (aT g) h
  simp at g
 | extract x i=>
  simp only[Yt,ho]at g;obtain⟨h1,rfl⟩:=YM g;simp only[qAc]at h1;exact Zpm ho h1.1 h1.2 h r
 | field t x f=>
  simp only[Yt,ho]at g;split at g
  ·rename_i h1;simp only[qAc]at h1;split at g
   ·rename_i off T S I;split at g
    ·rename_i n J;simp only[IF]at g;subst g;exact Zpl ho I J h1.1 h1.2 h r
    simp at g
   simp at g
  simp at g
 | alloc t=>
  simp only[Yt,ho]at g;split at g
  ·rename_i d G;split at g
   ·rename_i M;split at g
    ·rename_i i hi;split at g
     ·rename_i z hz;split at g
      ·rename_i U;simp only[IF]at g;subst g;exact Zpd ho G (by simpa using M) U hi hz h r
      simp at g
     simp at g
    simp at g
   obtain⟨h1,rfl⟩:=YM g;exact Uv ho (by simp) (λz hz=>by simp[Op.operands]at hz) h1 h r
  simp at g
 | box t x=>
  simp only[Yt,ho]at g;split at g
  ·rename_i d G;split at g
   ·rename_i M;split at g
    ·rename_i h1;simp only[qAc,qAK]at h1;simp only[IF]at g;subst g;exact Zpj ho G (by simpa using M) h1.2 h1.1 h r
    simp at g
   obtain⟨h1,rfl⟩:=YM g;simp only[qAc]at h1;exact Uv ho (by simp) (λz hz=>by simp[Op.operands]at hz;rw[hz];exact h1.1) h1.2 h r
  simp at g
 | fieldAddr t x f=>
  simp only[Yt,ho]at g;split at g
  ·rename_i off T S I;split at g
   ·simp at g
   rename_i hz;have K:S≠0:=by simpa using hz
   split at g
   ·rename_i s;split at g
    ·rename_i d l;obtain⟨h1,rfl⟩:=YM g;simp only[qAc]at h1;exact Zph ho I K l h1.1 h r
    rename_i l;obtain⟨h1,rfl⟩:=YM g;exact Zhj ho I K (by simp[nl,l]) h1 h r
   rename_i B;obtain⟨h1,rfl⟩:=YM g;refine Zhj ho I K ?_ h1 h r;cases x with
   | tmp s=>exact absurd rfl (B s)
   | _=>rfl
  simp at g
 | indexAddr t x i=>
  simp only[Yt,ho]at g;split at g
  ·rename_i hi;split at g
   ·rename_i len e s q;split at g
    ·rename_i d ie l C;obtain⟨h1,rfl⟩:=YM g;simp only[qAc]at h1;exact Zpg ho q C l hi h1.1 h r
    ·rename_i ie l C;obtain⟨h1,j⟩:=Zvh g;simp only[qAc]at h1;split at j
     ·simp only[IF]at j;subst j;exact Zps ho q C h1.2 hi h1.1 h r
     simp only[IF]at j;subst j;exact TQ
    obtain⟨h1,rfl⟩:=YM g;simp only[qAc]at h1;exact TQ
   ·rename_i e q;split at g
    ·rename_i ie C;obtain⟨h1,rfl⟩:=YM g;simp only[qAc]at h1;exact Zpk ho q C h1.1 hi h1.2 h r
    simp at g
   simp at g
  simp at g
 | load t x=>
  simp only[Yt,ho]at g;split at g
  ·rename_i J;obtain⟨h1,rfl⟩:=YM g;simp only[qAc]at h1;exact Zpa (M J) ho (by simp) (λz hz=>by simp only[Op.operands,qAk,iO]at hz;rw[hz];exact h1.1) h1.2 h r
  split at g
  ·rename_i G;split at g
   ·rename_i n J;split at g
    ·rename_i s;split at g
     ·rename_i d l;simp only[IF]at g;subst g;exact Zpf ho J l G h r
     rename_i l;simp only[IF]at g;subst g;exact Zhi ho J (by simp[nl,l]) G h r
    rename_i B;simp only[IF]at g;subst g;refine Zhi ho J ?_ G h r;cases x with
    | tmp s=>exact absurd rfl (B s)
    | _=>rfl
   simp at g
  simp at g
 | store t x v=>
  simp only[Yt,ho]at g;split at g
  ·rename_i h1;simp only[qAc,qDl]at h1;split at g
   ·rename_i i hi;split at g
    ·rename_i s;split at g
     ·rename_i d l;simp only[IF]at g;subst g;exact Zpe ho hi l h1.1 h1.2 h r
     rename_i l;simp only[IF]at g;subst g;exact Uv ho (by simp) (λz hz=>by
      simp only[Op.operands]at hz;simp only[qAk,qAi,qBD,qCV]at hz;rcases hz with rfl | rfl
      ·simp[nl,l]
      exact h1.1) (by rw[h1.2];rfl) h r
    rename_i B;simp only[IF]at g;subst g;exact Uv ho (by simp) (λz hz=>by
      simp only[Op.operands]at hz;simp only[qAk,qAi,qBD,qCV]at hz;rcases hz with rfl | rfl
      ·cases z with
       | tmp s=>exact absurd rfl (B s)
       | _=>rfl
      exact h1.1) (by rw[h1.2];rfl) h r
   simp at g
  simp at g
 | call c=>
  have A:(if((Op.call c).operands.all (nl L)) && kX L m o.dst then some (OD P L (.call c) o.type)else none)=some op->nI P nr o a (Nx P L m next) Ha:=λg=>Zeo ho (by simp) g h r;obtain⟨F,args,W⟩:=c;have O:∀{f},F=.builtin f->(Op.call { callee:=F,args:=args,argTypes:=W }).operands=args:=by rintro f rfl;simp[Op.operands,Call.operands]
  cases F with
  | builtin b=>
   by_cases hb:b=.len
   ·subst hb;simp only[Yt,ho]at g;split at g
    ·rename_i x t N R;split at g
     ·rename_i h1;simp only[qAc]at h1;split at g
      ·rename_i e q;simp only[IF]at g;subst g;exact Zpi ho N R q h1.1 h1.2 h r
      simp only[IF]at g;subst g;refine Uv ho (by simp) (λz hz=>?_) h1.2 h r;rw[O rfl]at hz;have:z∈args.toList:=qAS.2 hz;rw[N]at this;simp at this;rw[this];exact h1.1
     simp at g
    simp at g
   refine A ?_;cases b<;>first | exact absurd rfl hb | (simp only[Yt,ho]at g;exact g)
  | invoke x n=>exact A (by simpa only[Yt,ho]using g)
  | value x=>
   cases x with
   | func f=>
    simp only[Yt,ho]at g;split at g
    ·rename_i h1;simp only[qAc]at h1;have D:∀x∈args.toList,nl L x=true:=λx B=>qAn.1 h1.1 x (qAS.1 B);split at g
     ·rename_i fn I;split at g
      ·rename_i j;simp only[qAc,qBi]at j;simp only[IF]at g;subst g;exact Zpn ho I j.1 j.2 D h1.2 h r
      simp only[IF]at g;subst g;refine Uv ho (by simp) (λz hz=>?_) h1.2 h r;simp only[Op.operands,Call.operands,qBe,qAk,iO]at hz;rcases hz with rfl | hz
      ·rfl
      exact D z (qAS.2 hz)
     simp at g
    simp at g
   | _=>exact A (by simpa only[Yt,ho]using g)
 | build t ps=>
  simp only[Yt,ho]at g;split at g
  ·rename_i h1;simp only[qAc]at h1;split at g
   ·rename_i Y i q hi;split at g
    ·rename_i z qs hz Q;obtain⟨j,rfl⟩:=YM g;exact Zpq ho q hi hz j Q h1.1 h1.2 h r
    simp at g
   ·rename_i n e i q hi;split at g
    ·rename_i z ie hz C;split at g
     ·rename_i qs Q;simp only[IF]at g;subst g;exact Zpp ho q hi hz C Q h1.1 h1.2 h r
     simp at g
    simp at g
   simp at g
  simp at g
 | buildSlice t len ps=>
  simp only[Yt,ho]at g;split at g
  ·rename_i h1;simp only[qAc]at h1;split at g
   ·rename_i e q;split at g
    ·rename_i ie C;split at g
     ·rename_i z qs hz Q;split at g
      ·rename_i j;simp only[qAc,qAK,qBi,beq_eq_false_iff_ne,ne_eq]at j;simp only[IF]at g;subst g;exact Zpo ho q C hz j.1 j.2 Q h1.1 h1.2 h r
      simp only[IF]at g;subst g;refine Uv ho (by simp) (λx B=>?_) h1.2 h r;simp only[Op.operands,qAk,qAy]at B;obtain⟨p,V,rfl⟩:=B;exact qAn.1 h1.1 p (qAS.1 V)
     simp at g
    simp at g
   simp at g
  simp at g
 | select X b=>simp[Yt,ho]at g
 | _=>exact Zeo ho (by simp) (by simpa only[Yt,ho]using g) h r
end lJ
end
section
variable{P:PQ}{L:List (Nat×Nat)}{m:Nat}{H Ha:Hp}{a:Act}
structure NI where
 g:Option (Nat×Bool)
 dst:Option Nat
 op:fR
structure fG.Le(σ₀ σ:fG):Prop where
 env:∀t v,σ₀.env t=some v->σ.env t=some v
 box:∀d cs,σ₀.box d=some cs->σ.box d=some cs
 gR:σ.gR=σ₀.gR
def iI.xR{σ₀ σ:fG}(r:iI P L m σ H a Ha)(h:σ₀.Le σ):iI P L m σ₀ H a Ha:=by obtain⟨ρ,K,j,l,n,p,q,u⟩:=r.mem;exact⟨r.size,r.defers.trans h.gR,ρ,K,j,l,λd cs hd=>n d cs (h.box d cs hd),λd g cs c w y=>p d g cs c (h.box _ _ w) (h.box _ _ y),λt v A=>q t v (h.env t v A),u⟩
def pU(P:fP):List NI->(fG->Hp->Prop)->fG->Hp->Prop
 | [],Q,σ,H=>Q σ H
 | i :: r,Q,σ,H=>
  match i.g with
  | none=>i.op.w P i.dst (pU P r Q) σ H
  | some (t,c)=>∃v,σ.env t=some v/\(v=.bool c->i.op.w P i.dst (pU P r Q) σ H)/\(v≠.bool c->pU P r Q (σ.jP i.dst) H)
def kZ.then(next:fG->Hp->Prop)(Q:Ex->fG->Hp->Prop):Ex->fG->Hp->Prop
 | .normal,a,H=>next a H
 | e,a,H=>Q e a H
def kZ.inBlock(id:Nat)(Q:Ex->fG->Hp->Prop):Ex->fG->Hp->Prop
 | .exit c,a,H=>if c=id then Q .normal a H else Q (.exit c) a H
 | e,a,H=>Q e a H
def QY(P:Program)(L:List (Nat×Nat))(m:Nat)(fK:Array Oper)(i:Nat):Option NI:=
 match fK[i]? with
 | none=>none
 | some o=>
  match Yt P L m o with
  | none=>none
  | some op=>
   match o.guard with
   | none=>some ⟨none,o.dst,op⟩
   | some (j,c)=>
    match (fK[j]?).bind (·.dst)with
    | none=>none
    | some t=>if nl L (.tmp t)then some ⟨some (t,c),o.dst,op⟩else none
def Ve(P:Program)(L:List (Nat×Nat))(m:Nat)(fK:Array Oper):List Nat->Option (List NI)
 | []=>some []
 | i :: r=>match QY P L m fK i,Ve P L m fK r with
  | some x,some c=>some (x :: c)
  | _,_=>none
def ZnI{σ:fG}(r:iI P L m σ H a Ha){fK:Array Oper}{j t:Nat}{v:Value}{pO:Bool}(l:(fK[j]?).bind (·.dst)=some t)(n:nl L (.tmp t)=true)(hb:σ.env t=some v):(v=.bool pO->yielded fK a.tmps j=some pO)/\(v≠.bool pO->yielded fK a.tmps j≠some pO):=by
 have c:a.eval (.tmp t)=v:=r.get n hb;simp only[Act.eval,qBI]at c;unfold yielded;rw[l];show(_->(match a.tmps[t]? with | some (.bool b)=>some b | _=>none)=some pO)/\(_->(match a.tmps[t]? with | some (.bool b)=>some b | _=>none)≠some pO);cases h:a.tmps[t]? with
 | none=>
  rw[h]at c;refine⟨λe=>?_,λ_=>by simp⟩;rw[<-c]at e;simp[undef]at e
 | some u=>
  rw[h]at c;have c:u=v:=c;subst c;refine⟨λe=>by rw[e],λe=>?_⟩;split
  ·rename_i b hb;obtain rfl:=aT hb;intro g;exact e (by rw[aT g])
  simp
def Kr{P:fP}{nr:Bool}{L:List (Nat×Nat)}{m:Nat}{fK:Array Oper}{Q:fG->Hp->Prop}(I:tI L=true->nr=true):∀{l:List Nat} {F:List NI} {σ:fG} {H Ha:Hp} {a:Act},Ve P L m fK l=some F->pU P F Q σ H->iI P L m σ H a Ha->uM P nr fK (Nx P L m Q) l a Ha
 | [],F,σ,H,Ha,a,u,h,r=>by simp only[Ve,IF]at u;subst u;exact⟨_,_,r,h⟩
 | i :: l,F,σ,H,Ha,a,u,h,r=>by
  simp only[Ve]at u;split at u
  ·rename_i x O c E;simp only[IF]at u;subst u;simp only[QY]at c;split at c
   ·simp at c
   rename_i o U;split at c
   ·simp at c
   rename_i op K;have q:op.w P o.dst (pU P O Q) σ H->nI P nr o a (uM P nr fK (Nx P L m Q) l) Ha:=by
    intro A;have key:∀G y,Nx P L m (pU P O Q) G y->uM P nr fK (Nx P L m Q) l G y:=λG y ⟨σ',X,V,J⟩=>Kr I E J V;refine(Zoa I K A r).imp (Vx ?_) (Zm.mono · λv H D=>key _ _ D);rintro n g W (B | C)
    ·exact .inl B
    refine .inr ?_;cases n with
    | enter f args=>exact Zb.mono C (λv H D=>key _ _ D)
    | round Z f tmps aA Y=>exact U4.mono C (λv H D=>key _ _ D)
    | value v=>exact key _ _ C
    | skip=>exact key _ _ C
    | defer d=>exact key _ _ C
    | _=>exact C.elim
   simp only[uM,U];split at c
   ·rename_i B;simp only[IF]at c;subst c;have A:Region.wanted o (yielded fK a.tmps)=true:=by simp[Region.wanted,B]
    simp only[A,qBb];exact q h
   rename_i j pO B;split at c
   ·simp at c
   rename_i t M;split at c
   ·rename_i T;simp only[IF]at c;subst c;obtain⟨b,hb,R,S⟩:=h;have N:=ZnI (pO:=pO) r M T hb;by_cases p:b=.bool pO
    ·have A:Region.wanted o (yielded fK a.tmps)=true:=by simp[Region.wanted,B,N.1 p]
     simp only[A,qBb];exact q (R p)
    have A:Region.wanted o (yielded fK a.tmps)=false:=by simp[Region.wanted,B,N.2 p]
    simp only[A,oR,qAq];exact Kr I E (S p) (r.jP _)
   simp at c
  simp at u
end
variable{k:IntKind}
def aM(H:Hp)(a:Addr)(c:List Value):Prop:=a.spot=none/\∃o p,H a.block=some (o,p)/\∀j,j<c.length->Obj.nC o (a.off+j)=c[j]?
def rY(z:Int):Prop:=-9223372036854775808<=z/\z<=9223372036854775807
def V8{z:Int}(h:rY z):IntKind.i64.wrap z=z:=by obtain⟨c,g⟩:=h;exact xX
def Y5:IntKind->IntKind->Bool
 | .i8,.i8 | .i16,.i16 | .i32,.i32 | .i64,.i64 | .u8,.u8 | .u16,.u16 | .u32,.u32 | .u64,.u64=>true
 | _,_=>false
def ZuV{c:IntKind}(h:Y5 k c=true):k=c:=by cases k<;>cases c<;>simp_all[Y5]
def Mn(op:BinOp)(k:IntKind)(m n:Int)(K:Value->Prop):Prop:=
 match op,k with
 | .add,.i64=>rY (m+n)/\K (.int .i64 (m+n))
 | .sub,.i64=>rY (m-n)/\K (.int .i64 (m-n))
 | .mul,.i64=>rY (m * n)/\K (.int .i64 (m * n))
 | .add,k=>K (.int k (k.wrap (m+n)))
 | .sub,k=>K (.int k (k.wrap (m-n)))
 | .mul,k=>K (.int k (k.wrap (m * n)))
 | .eql,_=>∀b:Bool,(b=true↔m=n)->K (.bool b)
 | .neq,_=>∀b:Bool,(b=true↔m≠n)->K (.bool b)
 | .lss,_=>∀b:Bool,(b=true↔m<n)->K (.bool b)
 | .leq,_=>∀b:Bool,(b=true↔m<=n)->K (.bool b)
 | .gtr,_=>∀b:Bool,(b=true↔m > n)->K (.bool b)
 | .geq,_=>∀b:Bool,(b=true↔m ≥ n)->K (.bool b)
 | _,_=>False
def Zy5{op:BinOp}{m n:Int}{K:Value->Prop}(h:Mn op k m n K):∃v,EC op k m n=some v/\K v:=by
 cases op<;>simp only[Mn]at h<;>try exact h.elim
 case add=>cases k<;>first | exact⟨_,rfl,h⟩ | (refine⟨_,rfl,?_⟩;rw[V8 h.1];exact h.2)
 case sub=>cases k<;>first | exact⟨_,rfl,h⟩ | (refine⟨_,rfl,?_⟩;rw[V8 h.1];exact h.2)
 case mul=>cases k<;>first | exact⟨_,rfl,h⟩ | (refine⟨_,rfl,?_⟩;rw[V8 h.1];exact h.2)
 all_goals exact⟨_,rfl,h _ (by simp)⟩
def Zs4(c:List Value)(off:Nat)(K:Value->Prop):Prop:=∃v,c[off]? = some v/\K v
def fR.m(P:fP)(op:fR)(dst:Option Nat)(next:fG->Hp->Prop)(σ:fG)(H:Hp):Prop:=
 match op with
 | .lS x=>match σ.get x with | some v=>next (σ.set dst v) H | none=>False
 | .pick c a b=>match σ.get c with
  | some (.bool true)=>match σ.get a with | some v=>next (σ.set dst v) H | none=>False
  | some (.bool false)=>match σ.get b with | some v=>next (σ.set dst v) H | none=>False
  | _=>False
 | .fV op x y=>match σ.get x,σ.get y with
  | some (.int k m),some (.int u n)=>match Y5 k u with
   | true=>Mn op k m n λv=>next (σ.set dst v) H
   | false=>False
  | _,_=>False
 | .not x=>match σ.get x with | some (.bool true)=>next (σ.set dst (.bool false)) H | some (.bool false)=>next (σ.set dst (.bool true)) H | _=>False
 | .ext x i=>match σ.get x with
  | some (.tuple q)=>match q[i]? with | some v=>next (σ.set dst v) H | none=>False
  | _=>False
 | .oL off n x=>match σ.get x with
  | some (.agg cs)=>match n with
   | none=>match cs[off]? with | some v=>next (σ.set dst v) H | none=>False
   | some n=>next (σ.set dst (.agg ((cs.toList.drop off).take n).toArray)) H
  | _=>False
 | .fE off x=>match σ.get x with | some (.pointer (some a))=>next (σ.set dst (.pointer (some (a.add off)))) H | _=>False
 | .gC h x i=>match σ.get x,σ.get i with
  | some (.slice A ln _),some (.int _ n)=>∃a,A=some a/\(0<=n/\n<(ln:Nat))/\next (σ.set dst (.pointer (some (a.add (n.toNat * h))))) H
  | _,_=>False
 | .ld n x=>P.still H.gh=false/\match σ.get x with
  | some (.pointer (some a))=>match n with
   | none=>∃v,aM H a [v]/\next (σ.set dst v) H
   | some n=>∃cs:List Value,cs.length=n/\aM H a cs/\next (σ.set dst (.agg cs.toArray)) H
  | _=>False
 | .len x=>match σ.get x with | some (.slice _ n _)=>next (σ.set dst (.int .i64 (Int.ofNat n))) H | _=>False
 | .eC d p z=>P.still H.gh=false/\next (((σ.drop p).set (some d) (.int .i64 (Int.ofNat 0))).put d z) H
 | .eE d p x=>P.still H.gh=false/\match σ.get x with
  | some (.agg cs)=>next (((σ.drop p).set (some d) (.int .i64 (Int.ofNat 0))).put d cs.toList) H
  | some v=>next (((σ.drop p).set (some d) (.int .i64 (Int.ofNat 0))).put d v.cells.toList) H
  | none=>False
 | .fH off t=>match σ.env t with | some (.int .i64 (.ofNat n))=>next (σ.set dst (.int .i64 (Int.ofNat (n+off)))) H | _=>False
 | .nH h ln x i=>match σ.get x,σ.get i with
  | some (.pointer A),some (.int _ n)=>∃a,A=some a/\(0<=n/\n<(ln:Nat))/\next (σ.set dst (.pointer (some (a.add (n.toNat * h))))) H
  | _,_=>False
 | .hO h ln t i=>match σ.env t,σ.get i with
  | some (.int .i64 (.ofNat n)),some (.int _ j)=>(0<=j/\j<(ln:Nat))/\next (σ.set dst (.int .i64 (Int.ofNat (n+j.toNat * h)))) H
  | _,_=>False
 | .gO d n t=>P.still H.gh=false/\match σ.env t,σ.box d with
  | some (.int .i64 (.ofNat off)),some cs=>match n with
   | none=>Zs4 cs off λv=>next (σ.set dst v) H
   | some n=>match Nat.ble (off+n) cs.length with
    | true=>next (σ.set dst (.agg ((cs.drop off).take n).toArray)) H
    | false=>False
  | _,_=>False
 | .tS d n t x=>P.still H.gh=false/\match σ.env t,σ.box d,σ.get x with
  | some (.int .i64 (.ofNat off)),some cs,some v=>(v.cells.size=n/\off+n<=cs.length/\(v.cells.toList.all Value.gM)=true)/\next (σ.put d (ZR cs off v.cells.toList)) H
  | _,_,_=>False
 | .call f args=>match σ.gets args with
  | some q=>Zb P f q.toArray H λv l=>next (σ.set dst v) l
  | none=>False
 | .build z ps=>match buildV σ ps z with | some cs=>next (σ.set dst (.agg cs.toArray)) H | none=>False
 | .fJ e ln z ps=>P.still H.gh=false/\match buildV σ ps z with
  | some cs=>∀r,H r=none->next (σ.set dst (.slice (some ⟨r,0,none⟩) ln ln)) (H.ins r (.cells cs.toArray e))
  | none=>False
 | .raw op ty=>(op.operands.all λx=>(σ.get x).isSome)=true/\(fZ P (execOp (λx=>(σ.get x).getD undef) (fL op ty)) (λn g l=>g=true\/CF P op dst next σ n l) false H \/
   Zm P (execOp (λx=>(σ.get x).getD undef) (fL op ty)) (Vo P (fL op ty)) false H λv l=>next (σ.set dst v) l)
 | .lV op ty=>(op.operands.all λx=>(σ.get x).isSome)=true/\Zm P (execOp (λx=>(σ.get x).getD undef) (fL op ty)) (Vo P (fL op ty)) true H λv l=>next (σ.set dst v) l
 | .gE op ty=>(op.operands.all λx=>(σ.get x).isSome)=true/\∃v,qG P (execOp (λx=>(σ.get x).getD undef) (fL op ty)) v/\next (σ.set dst v) H
theorem fR.s9{P:fP}{op:fR}{dst:Option Nat}{next B:fG->Hp->Prop}{σ:fG}{H:Hp}(l:∀σ H,next σ H->B σ H)(h:op.m P dst next σ H):op.w P dst B σ H:=by
 cases op<;>simp only[fR.m]at h<;>simp only[fR.w]
 case lS x=>split at h;exact⟨_,‹_›,l _ _ h⟩;exact h.elim
 case pick c a b=>
  split at h
  ·split at h;exact⟨true,_,‹_›,‹_›,l _ _ h⟩;exact h.elim
  ·split at h;exact⟨false,_,‹_›,‹_›,l _ _ h⟩;exact h.elim
  ·exact h.elim
 case fV op x y=>
  split at h
  ·split at h
   ·rename_i J;obtain rfl:=ZuV J;obtain⟨v,q,u⟩:=Zy5 h;exact⟨_,_,_,v,‹_›,‹_›,q,l _ _ u⟩
   exact h.elim
  ·exact h.elim
 case not x=>split at h;exact⟨true,‹_›,l _ _ h⟩;exact⟨false,‹_›,l _ _ h⟩;exact h.elim
 case ext x i=>
  split at h
  ·split at h;exact⟨_,_,‹_›,‹_›,l _ _ h⟩;exact h.elim
  ·exact h.elim
 case oL off n x=>
  split at h
  ·cases n with
   | none=>simp only at h;split at h;exact⟨_,‹_›,_,‹_›,l _ _ h⟩;exact h.elim
   | some n=>
    rename_i cs M;refine⟨cs,M,?_⟩;have:cs.extract off (off+n)=((cs.toList.drop off).take n).toArray:=by apply Array.ext';simp[Array.toList_extract]
    simp only;rw[this];exact l _ _ h
  ·exact h.elim
 case fE off x=>split at h;exact⟨_,‹_›,l _ _ h⟩;exact h.elim
 case gC iS x i=>
  split at h
  ·obtain⟨a,rfl,q,u⟩:=h;exact⟨a,_,_,_,_,‹_›,‹_›,q.1,q.2,l _ _ u⟩
  ·exact h.elim
 case nH iS ln x i=>
  split at h
  ·obtain⟨a,rfl,q,u⟩:=h;exact⟨a,_,_,‹_›,‹_›,q.1,q.2,l _ _ u⟩
  ·exact h.elim
 case ld n x=>
  obtain⟨A,h⟩:=h
  refine⟨A,?_⟩
  split at h
  ·cases n with
   | none=>
    obtain⟨v,⟨q,o,p,u,C⟩,D⟩:=h;exact⟨_,o,p,‹_›,q,u,v,by simpa using C 0 (by simp),l _ _ D⟩
   | some n=>
    obtain⟨cs,I,⟨q,o,p,u,C⟩,D⟩:=h;exact⟨_,o,p,‹_›,q,u,cs,I,λj Q=>C j O,l _ _ D⟩
  ·exact h.elim
 case len x=>split at h;exact⟨_,_,_,‹_›,l _ _ h⟩;exact h.elim
 case eC d ts z=>exact⟨h.1,l _ _ h.2⟩
 case eE d ts x=>obtain⟨G,h⟩:=h;refine⟨G,?_⟩;split at h;exact⟨_,‹_›,l _ _ (by exact h)⟩;exact⟨_,‹_›,l _ _ (by exact h)⟩;exact h.elim
 case fH off t=>split at h;exact⟨_,‹_›,l _ _ h⟩;exact h.elim
 case hO iS ln t i=>
  split at h
  ·exact⟨_,_,_,‹_›,‹_›,h.1.1,h.1.2,l _ _ h.2⟩
  ·exact h.elim
 case gO d n t=>
  obtain⟨A,h⟩:=h
  refine⟨A,?_⟩
  split at h
  ·cases n with
   | none=>obtain⟨v,q,u⟩:=h;exact⟨_,_,‹_›,‹_›,v,q,l _ _ u⟩
   | some n=>
    simp only at h;split at h
    ·rename_i F;exact⟨_,_,‹_›,‹_›,qCp F,l _ _ h⟩
    exact h.elim
  ·exact h.elim
 case tS d n t x=>
  obtain⟨A,h⟩:=h
  refine⟨A,?_⟩
  split at h
  ·obtain⟨⟨q,u,C⟩,D⟩:=h;refine⟨_,_,_,‹_›,‹_›,‹_›,q,u,C,?_⟩;have:=l _ _ D;unfold ZR at this;rw[qCA,q]at this;exact this
  ·exact h.elim
 case call f args=>
  split at h
  ·exact⟨_,‹_›,Zb.mono h λv H E=>l _ _ E⟩
  ·exact h.elim
 case build z ps=>split at h;exact⟨_,‹_›,l _ _ h⟩;exact h.elim
 case fJ e ln z ps=>obtain⟨G,h⟩:=h;refine⟨G,?_⟩;split at h;exact⟨_,‹_›,λr K=>l _ _ (h r K)⟩;exact h.elim
 case lV op ty=>exact⟨h.1,h.2.mono λv H E=>l _ _ E⟩
 case gE op ty=>obtain⟨q,v,u,C⟩:=h;exact⟨q,v,u,l _ _ C⟩
 case raw op ty=>
  refine⟨h.1,h.2.imp (Vx λn g N h=>h.imp id (CF.mono l)) (Zm.mono · λv H E=>l _ _ E)⟩
def ZW(P:fP):List NI->(fG->Hp->Prop)->fG->Hp->Prop
 | [],Q,σ,H=>Q σ H
 | ⟨none,d,op⟩ :: r,Q,σ,H=>op.m P d (ZW P r Q) σ H
 | ⟨some (t,true),d,op⟩ :: r,Q,σ,H=>match σ.env t with
  | some (.bool true)=>op.m P d (ZW P r Q) σ H
  | some (.bool false)=>ZW P r Q (σ.jP d) H
  | some (.tuple _)=>ZW P r Q (σ.jP d) H
  | _=>False
 | ⟨some (t,false),d,op⟩ :: r,Q,σ,H=>match σ.env t with
  | some (.bool false)=>op.m P d (ZW P r Q) σ H
  | some (.bool true)=>ZW P r Q (σ.jP d) H
  | some (.tuple _)=>ZW P r Q (σ.jP d) H
  | _=>False
def ZW.n{P:fP}{Q c:fG->Hp->Prop}(hq:∀σ H,Q σ H->c σ H):∀{l:List NI} {σ:fG} {H:Hp},ZW P l Q σ H->pU P l c σ H
 | [],σ,H,h=>hq _ _ h
 | ⟨none,d,op⟩ :: r,σ,H,h=>fR.s9 (λσ H h=>ZW.n hq h) h
 | ⟨some (t,true),d,op⟩ :: r,σ,H,h=>by exact TZ
 | ⟨some (t,false),d,op⟩ :: r,σ,H,h=>by exact TZ
