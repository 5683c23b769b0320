import Derived.Test.YthmnpenamnoniaaGreatDoorP00
set_option linter.all false
namespace Go.LL
section
variable{r:Nat}{o:Obj}{P:aY}{f:FuncId}{ds:List Deferred}{d:Deferred}
def Kc{G:Prop} (h:G:=by
  intro G c cs lU hG;have h0:=h (λfr dH H'=>dH=cs/\∃v H1 J,fr=c.finish v/\H'=H1.join J/\H1.Comp J/\Post v H1) c cs ?_ ?_
  ·refine(h0.frame hc).bind ?_;rintro fr dH HF ⟨H',rfl,pP,rfl,v,H1,J,rfl,rfl,hj,hp⟩;have c1:H1.Comp F:=pP.of_join_left;have c2:J.Comp F:=Hp.Comp.dD hj pP;rw[Hp.eM c2.symm];exact(hG v _ ⟨H1,rfl,c1,hp⟩).up lU (Hp.Comp.gJ hj c2.symm)
  ·rintro fr dH H' J hJ ⟨rfl,v,H1,J1,rfl,rfl,hj,hp⟩;exact⟨rfl,v,H1,J1.join J,rfl,Hp.cO _ _ _,hj.join_r hJ.of_join_left,hp⟩
  intro v H' hp;exact .stop ⟨rfl,v,H',.nil,rfl,(Hp.dF H').symm,Hp.dI H',hp⟩):G:=h
def Hp.fD(H F:Hp)(r:Nat)(o:Obj):(H.ins r o).join F=(H.join F).ins r o:=by refine Hp.ext' (λb=>?_) rfl;simp only[Hp.aQ,Hp.dB];by_cases h:b=r<;>simp[h]
def Hp.Comp.fE{H F:Hp}(g:H.Comp F){k:Obj}(h:H r=some (k,true)):(H.ins r o).Comp F:=by
 refine⟨?_,g.gh⟩;intro b x y c j;simp only[Hp.dB]at c;split at c
 ·subst b;have:=g r _ y h j;simp at this
 exact g b x y c j
def Hp.Comp.eE{H F:Hp}(j:H.Comp F)(o:Obj)(h:F r=none):(H.ins r o).Comp F:=by
 refine⟨?_,j.gh⟩;intro b x y c g;simp only[Hp.dB]at c;split at c
 ·subst b;rw[h]at g;simp at g
 exact j b x y c g
def Hp.Comp.hZ{H F:Hp}(c:H.Comp F)(h:H r=some (o,true)):F r=none:=by
 cases g:F r with
 | none=>rfl
 | some y=>have:=c r _ y h g;simp at this
def Hp.Comp.left_none{H F:Hp}(j:H.Comp F)(h:F r=some (o,true)):H r=none:=by
 cases k:H r with
 | none=>rfl
 | some y=>
  obtain⟨g,c⟩:=j r _ _ k h;rw[g]at c;simp at c
theorem G6{P:PQ}{α:Type}{s:Sem α}{Q:α->Bool->Hp->Prop}{F:Hp}:∀{g:Bool} {H:Hp},bD P s Q g H->H.Comp F ->
  bD P s (λa g G=>∃E,G=E.join F/\E.Comp F/\Q a g E) g (H.join F):=by
 induction s with
 | pure a=>exact λh l=>⟨_,rfl,l,h⟩
 | load m a k ih=>exact λ⟨o,p,v,u,z,A,B,C⟩ l=>⟨o,p,v,⟨Uk l u.1,Hp.aJ u.2⟩,z,A,B,ih v C l⟩
 | store m a v k ih=>exact λ⟨o,u,z,A,B,C,I,J⟩ l=>⟨o,⟨Uk l u.1,Hp.aJ u.2⟩,z,A,B,C,I,by rw[<-Hp.fD];exact ih J (l.fE u.2)⟩
 | new o k ih=>
  intro g H h l;refine⟨Uk l h.1,λr K=>?_⟩;obtain⟨u,z⟩:=Hp.cI.1 K;rw[<-Hp.fD];exact ih r (h.2 r u) (l.eE o z)
 | shape r k ih=>exact λ⟨o,p,u,z⟩ l=>⟨o,p,⟨Uk l u.1,Hp.aJ u.2⟩,ih _ z l⟩
 | freeze a n k ih=>exact λh l=>h.imp (λ⟨u,z⟩=>⟨u,ih z l⟩) (λ⟨o,u,z,A⟩=>⟨o,⟨Uk l u.1,Hp.aJ u.2⟩,z,by rw[<-Hp.fD];exact ih A (l.fE u.2)⟩)
 | frozen a k ih=>exact λ⟨o,p,u,z⟩ l=>⟨o,p,⟨Uk l u.1,Hp.aJ u.2⟩,ih _ z l⟩
 | getObj r k ih=>exact λ⟨o,p,u,z,A,B⟩ l=>⟨o,p,⟨Uk l u.1,Hp.aJ u.2⟩,z,A,ih _ B l⟩
 | setObj r o k ih=>exact λ⟨M,u,z,A,B,C⟩ l=>⟨M,⟨Uk l u.1,Hp.aJ u.2⟩,z,A,B,by rw[<-Hp.fD];exact ih C (l.fE u.2)⟩
 | choose q k ih=>
  intro g H h l;by_cases D:q.forced=true
  ·simp only[bD,D,qAH]at h ⊢;exact ih _ h l
  simp only[bD,D]at h ⊢;exact⟨Uk l h.1,λt=>ih _ (h.2 t) l⟩
 | sys c k ih=>exact λh _=>h
 | program k ih=>exact λh l=>ih _ h l
 | mark m k ih=>exact λ⟨u,z⟩ l=>⟨u.imp id λh=>⟨h.1,Uk l h.2⟩,ih z l⟩
 | halt h=>exact λh _=>h
theorem Hp.cO(H F J:Hp):(H.join F).join J=H.join (F.join J):=by refine Hp.ext' (λb=>?_) (by simp only[Hp.bI,qAS]);simp only[Hp.aQ];cases H b<;>rfl
def Hp.Comp.symm{H F:Hp}(h:H.Comp F):F.Comp H:=⟨λb x y c g=>by obtain⟨e,p⟩:=h b y x g c;exact⟨e.symm,by rw[<-e];exact p⟩,h.gh.symm⟩
def Hp.nC{H F:Hp}(h:H.Comp F):H.join F=F.join H:=by
 refine Hp.ext' (λb=>?_) (by simp only[Hp.bI];rcases h.gh with e | e<;>simp[e]);simp only[Hp.aQ];cases h1:H b with
 | none=>cases c:F b<;>simp
 | some x=>
  cases c:F b with
  | none=>rfl
  | some y=>simp[(h b x y h1 c).1]
theorem Hp.Comp.of_join_left{H F J:Hp}(h:(H.join F).Comp J):H.Comp J:=⟨λb x y c g=>h b x y (Hp.aJ c) g,h.gh.imp (λe=>(List.append_eq_nil_iff.1 e).1) id⟩
theorem Hp.Comp.dD{H F J:Hp}(j:H.Comp F)(h:(H.join F).Comp J):F.Comp J:=⟨λb x y c g=>h b x y (Hp.aP j c) g,h.gh.imp (λe=>(List.append_eq_nil_iff.1 e).2) id⟩
def Hp.Comp.gJ{H F J:Hp}(j:H.Comp J)(k:F.Comp J):(H.join F).Comp J:=by
 refine⟨λb x y c l=>?_,?_⟩
 ·simp only[Hp.aQ]at c;cases hh:H b with
  | none=>rw[hh]at c;exact k b x y c l
  | some z=>rw[hh]at c;exact j b x y (by rw[hh];exact c) l
 rcases j.gh with g | g
 ·rcases k.gh with h | h
  ·exact .inl (by simp[Hp.bI,g,h])
  exact .inr h
 exact .inr g
def Hp.dF(H:Hp):H.join .nil=H:=Hp.ext' (λb=>by simp only[Hp.aQ];cases H b<;>rfl) (by simp[Hp.bI,Hp.nil])
def Hp.dI(H:Hp):H.Comp .nil:=⟨λ_ _ _ _ h=>by simp[Hp.nil]at h,.inr rfl⟩
def Hp.Comp.join_r{H F J:Hp}(c:H.Comp F)(g:H.Comp J):H.Comp (F.join J):=(Hp.Comp.gJ c.symm g.symm).symm
def Hp.eM{H F J:Hp}(h:F.Comp J):(H.join J).join F=(H.join F).join J:=by rw[Hp.cO,Hp.cO,Hp.nC h]
def Za.frame{args:Array Value}{H F:Hp}{Post:Value->Hp->Prop}(h:Za P f args H Post)(hc:H.Comp F) :
  Za P f args (H.join F) (λv HF=>∃H',HF=H'.join F/\H'.Comp F/\Post v H'):=by
 exact Kc
def U6.frame{l:Nat}{tmps:Array Value}{assign body:Code}{H F:Hp}{Post:Value->Hp->Prop}(h:U6 P l f tmps assign body H Post)(hc:H.Comp F) :
  U6 P l f tmps assign body (H.join F) (λv HF=>∃H',HF=H'.join F/\H'.Comp F/\Post v H'):=by
 exact Kc
def Zp.frame{s:Sem Next}{D nr:Bool}{H F:Hp}{g:Value->Hp->Prop}(h:Zp P s D nr H g)(O:H.Comp F) :
  Zp P s D nr (H.join F) (λv A=>∃c,A=c.join F/\c.Comp F/\g v c):=by
 intro G w C B z N K;have I:=h (λu k c=>k=B/\∃v j J,u=C v/\c=j.join J/\j.Comp J/\g v j) w C B ?_ N ?_
 ·refine(I.frame O).bind ?_;rintro u k A ⟨c,rfl,l,rfl,v,j,J,rfl,rfl,q,p⟩;have c1:j.Comp F:=l.of_join_left;have c2:J.Comp F:=Hp.Comp.dD q l;rw[Hp.eM c2.symm];exact(K v _ ⟨j,rfl,c1,p⟩).up z (Hp.Comp.gJ q c2.symm)
 ·rintro u k c J M ⟨rfl,v,j,E,rfl,rfl,q,p⟩;exact⟨rfl,v,j,E.join J,rfl,Hp.cO _ _ _,q.join_r M.of_join_left,p⟩
 intro v c p;exact .stop ⟨rfl,v,c,.nil,rfl,(Hp.dF c).symm,Hp.dI c,p⟩
def yA(d:Deferred):Bool:=
 match d.target with
 | .collected _=>true
 | _=>false
def VC:List Deferred->List Nat
 | []=>[]
 | d :: ds=>match d.target with
  | .collected r=>r :: VC ds
  | _=>VC ds
def OS:List Deferred->List Deferred
 | []=>[]
 | d :: ds=>if yA d then OS ds else d :: OS ds
def U8(P:PQ)(K:Hp)(ds:List Deferred):Prop:=(VC ds).Nodup/\(∀r∈VC ds,K r=some (.deferred (some []),true))/\(VC ds=[]\/∀g,P.still g=false)
def U8.nil(P:PQ)(K:Hp):U8 P K []:=⟨qCs,λr h=>by simp[VC]at h,.inl rfl⟩
def U8.ins{P:PQ}{K:Hp}(h:U8 P K ds)(k:∀j,K r=some (j,true)->∀c,j≠.deferred c):U8 P (K.ins r o) ds:=
 ⟨h.1,λx l=>by
  have g:=h.2.1 x l;by_cases e:x=r
  ·subst e;exact absurd rfl (k _ g _)
  rw[Hp.aE _ _ e];exact g,h.2.2⟩
theorem Bj(c:yA d=false):VC (d :: ds)=VC ds:=by
 unfold yA at c;simp only[VC];split at c
 ·simp at c
 rfl
def U8.plain{P:PQ}{K:Hp}(h:U8 P K ds)(c:yA d=false):U8 P K (d :: ds):=by unfold U8;rw[Bj c];exact h
def BU:Op->Bool
 | .defer _=>true
 | _=>false
structure aL where
 env:Nat->Option Value
 box:Nat->Option (List Value)
 bN:List Deferred
def aL.set(σ:aL)(d:Option Nat)(v:Value):aL:=
 match d with
 | none=>σ
 | some d=>{ σ with env:=λt=>bif Nat.beq t d then some v else σ.env t }
def aL.dR(σ:aL)(d:Option Nat):aL:=
 match d with
 | none=>σ
 | some d=>{ σ with env:=λt=>bif Nat.beq t d then some undef else σ.env t }
def aL.drop(σ:aL)(c:List Nat):aL:={ σ with env:=λt=>bif c.elem t then none else σ.env t }
def aL.put(σ:aL)(d:Nat)(c:List Value):aL:={ σ with box:=λt=>bif Nat.beq t d then some c else σ.box t }
def aL.get(σ:aL):Operand->Option Value
 | .tmp t=>σ.env t
 | .const v=>some v
 | .global g=>some (.pointer (some ⟨g,0,none⟩))
 | .func f=>some (.func (.func f) #[] #[])
def aL.dM(σ:aL):List Operand->Option (List Value)
 | []=>some []
 | x :: r=>match σ.get x,σ.dM r with
  | some v,some c=>some (v :: c)
  | _,_=>none
inductive aR where
 | cV (x:Operand)
 | pick (c a b:Operand)
 | bC (op:BinOp) (x y:Operand)
 | not (x:Operand)
 | ext (x:Operand) (i:Nat)
 | iU (off:Nat) (n:Option Nat) (x:Operand)
 | aU (off:Nat) (x:Operand)
 | bX (dQ:Nat) (x i:Operand)
 | ld (n:Option Nat) (x:Operand)
 | len (x:Operand)
 | aO (d:Nat) (ts:List Nat) (z:List Value)
 | aS (d:Nat) (ts:List Nat) (x:Operand)
 | aV (off t:Nat)
 | dA (dQ len t:Nat) (i:Operand)
 | cY (d:Nat) (n:Option Nat) (t:Nat)
 | kE (d n t:Nat) (x:Operand)
 | call (f:FuncId) (args:List Operand)
 | build (z:List Value) (ps:List (Nat×Nat×Operand))
 | aX (e:TypeId) (len:Nat) (z:List Value) (ps:List (Nat×Nat×Operand))
 | raw (op:Op) (ty:TypeId)
 | eQ (op:Op) (ty:TypeId)
 | bT (op:Op) (ty:TypeId)
def ZZ(z:List Value)(off:Nat)(c:List Value):List Value:=z.take off++c++z.drop (off+c.length)
def buildV(σ:aL):List (Nat×Nat×Operand)->List Value->Option (List Value)
 | [],z=>some z
 | (off,sz,x) :: r,z=>
  match σ.get x with
  | some v=>bif Nat.beq v.cells.size sz && Nat.ble (off+sz) z.length then buildV σ r (ZZ z off v.cells.toList)else none
  | none=>none
def rB(op:BinOp)(k:IntKind)(m n:Int):Option Value:=
 match op with
 | .add=>some (.int k (k.wrap (m+n)))
 | .sub=>some (.int k (k.wrap (m-n)))
 | .mul=>some (.int k (k.wrap (m * n)))
 | .eql=>some (.bool (m == n))
 | .neq=>some (.bool (m != n))
 | .lss=>some (.bool (m<n))
 | .leq=>some (.bool (m<=n))
 | .gtr=>some (.bool (m > n))
 | .geq=>some (.bool (m ≥ n))
 | _=>none
def Zu0(op:BinOp):Bool:=
 match op with
 | .add | .sub | .mul | .eql | .neq | .lss | .leq | .gtr | .geq=>true
 | _=>false
def aN(op:Op)(c:TypeId):Oper:={ dst:=none,op:=op,type:=c,pos:= "",after:=#[],guard:=none }
def hU(P:PQ)(s:Sem Next)(v:Value):Prop:=∀(Q:Next->Bool->Hp->Prop) (g:Bool) (H:Hp),Q (.value v) g H->bD P s Q g H
def pS(P:aY)(op:Op)(dst:Option Nat)(next:aL->Hp->Prop)(σ:aL):Next->Hp->Prop
 | .value v,H=>next (σ.set dst v) H
 | .skip,H=>next (σ.set dst undef) H
 | .enter f args,H=>Za P f args H λv c=>next (σ.set dst v) c
 | .round l f tmps aA g,H=>U6 P l f tmps aA g H λv c=>next (σ.set dst v) c
 | .defer d,H=>BU op=true/\yA d=false/\next ({ σ with bN:=d :: σ.bN }.set dst undef) H
 | _,_=>False
def pS.mono{op:Op}{dst:Option Nat}{K j:aL->Hp->Prop}{σ:aL}(c:∀σ H,K σ H->j σ H):∀{n:Next} {H:Hp},pS P op dst K σ n H->pS P op dst j σ n H:=by
 intro n H h;cases n with
 | value v=>exact c _ _ h
 | skip=>exact c _ _ h
 | enter f args=>exact Za.mono h λv H g=>c _ _ g
 | round l f tmps aA k=>exact U6.mono h λv H g=>c _ _ g
 | defer d=>exact⟨h.1,h.2.1,c _ _ h.2.2⟩
 | _=>exact h.elim
def aR.w(P:aY)(op:aR)(dst:Option Nat)(next:aL->Hp->Prop)(σ:aL)(H:Hp):Prop:=
 match op with
 | .cV x=>∃v,σ.get x=some v/\next (σ.set dst v) H
 | .pick c a b=>∃t v,σ.get c=some (.bool t)/\σ.get (bif t then a else b)=some v/\next (σ.set dst v) H
 | .bC op x y=>∃k m n v,σ.get x=some (.int k m)/\σ.get y=some (.int k n)/\rB op k m n=some v/\next (σ.set dst v) H
 | .not x=>∃b,σ.get x=some (.bool b)/\next (σ.set dst (.bool !b)) H
 | .ext x i=>∃A v,σ.get x=some (.tuple A)/\A[i]? = some v/\next (σ.set dst v) H
 | .iU off n x=>∃h,σ.get x=some (.agg h)/\match n with
  | none=>∃v,h[off]? = some v/\next (σ.set dst v) H
  | some n=>next (σ.set dst (.agg (h.extract off (off+n)))) H
 | .aU off x=>∃a,σ.get x=some (.pointer (some a))/\next (σ.set dst (.pointer (some (a.add off)))) H
 | .bX u x i=>∃(a:Addr) (ln cap:Nat) (k:IntKind) (n:Int),σ.get x=some (.slice (some a) ln cap)/\σ.get i=some (.int k n)/\0<=n/\n<ln/\next (σ.set dst (.pointer (some (a.add (n.toNat * u))))) H
 | .ld n x=>P.still H.gh=false/\∃a o p,σ.get x=some (.pointer (some a))/\a.spot=none/\H a.block=some (o,p)/\match n with
  | none=>∃v,Obj.fT o a.off=some v/\next (σ.set dst v) H
  | some n=>∃h:List Value,h.length=n/\(∀j,j<n->Obj.fT o (a.off+j)=h[j]?)/\next (σ.set dst (.agg h.toArray)) H
 | .len x=>∃b n c,σ.get x=some (.slice b n c)/\next (σ.set dst (.int .i64 (n:Nat))) H
 | .aO d C z=>P.still H.gh=false/\next (((σ.drop C).set (some d) (.int .i64 0)).put d z) H
 | .aS d C x=>P.still H.gh=false/\∃v,σ.get x=some v/\next (((σ.drop C).set (some d) (.int .i64 0)).put d v.cells.toList) H
 | .aV off t=>∃n:Nat,σ.env t=some (.int .i64 (n:Int))/\next (σ.set dst (.int .i64 ((n+off:Nat):Int))) H
 | .dA u ln t i=>∃(n:Nat) (k:IntKind) (j:Int),σ.env t=some (.int .i64 (n:Int))/\σ.get i=some (.int k j)/\0<=j/\j<ln/\next (σ.set dst (.int .i64 ((n+j.toNat * u:Nat):Int))) H
 | .cY d n t=>P.still H.gh=false/\∃(off:Nat) (h:List Value),σ.env t=some (.int .i64 (off:Int))/\σ.box d=some h/\match n with
  | none=>∃v,h[off]? = some v/\next (σ.set dst v) H
  | some n=>off+n<=h.length/\next (σ.set dst (.agg ((h.drop off).take n).toArray)) H
 | .kE d n t x=>P.still H.gh=false/\∃(off:Nat) (h:List Value) (v:Value),σ.env t=some (.int .i64 (off:Int))/\σ.box d=some h/\σ.get x=some v/\v.cells.size=n/\off+n<=h.length/\(v.cells.toList.all Value.bS)=true /\
   next (σ.put d (h.take off++v.cells.toList++h.drop (off+n))) H
 | .call f args=>∃A,σ.dM args=some A/\Za P f A.toArray H λv q=>next (σ.set dst v) q
 | .build z B=>∃h,buildV σ B z=some h/\next (σ.set dst (.agg h.toArray)) H
 | .aX e ln z B=>P.still H.gh=false/\∃h,buildV σ B z=some h/\∀r,H r=none->next (σ.set dst (.slice (some ⟨r,0,none⟩) ln ln)) (H.ins r (.cells h.toArray e))
 | .raw op l=>(op.operands.all λx=>(σ.get x).isSome)=true/\(bD P (execOp (λx=>(σ.get x).getD undef) (aN op l)) (λn g q=>g=true\/pS P op dst next σ n q) false H \/
   Zp P (execOp (λx=>(σ.get x).getD undef) (aN op l)) (Vw P (aN op l)) false H λv q=>next (σ.set dst v) q)
 | .eQ op l=>(op.operands.all λx=>(σ.get x).isSome)=true/\Zp P (execOp (λx=>(σ.get x).getD undef) (aN op l)) (Vw P (aN op l)) true H λv q=>next (σ.set dst v) q
 | .bT op l=>(op.operands.all λx=>(σ.get x).isSome)=true/\∃v,hU P (execOp (λx=>(σ.get x).getD undef) (aN op l)) v/\next (σ.set dst v) H
end
section
variable{t:TypeId}{d n b:Nat}{v:Value}{dst:Option Nat}{α β:Type}{i:TypeInfo}
def Nu{G:Prop} (h:G:=by
  induction x with
  | pure a=>rfl
  | halt h=>rfl
  | store m a v k ih=>simp only[Sem.bind,ih]
  | freeze a n k ih=>simp only[Sem.bind,ih]
  | setObj r o k ih=>simp only[Sem.bind,ih]
  | mark m k ih=>simp only[Sem.bind,ih]
  | _=>simp only[Sem.bind];congr 1;funext x;rename_i ih;exact ih x):G:=h
def nl(L:List (Nat×Nat))(x:Operand):Bool:=
 match x with
 | .tmp t=>(L.lookup t).isNone
 | _=>true
def eK(L:List (Nat×Nat))(m:Nat)(d:Option Nat):Bool:=
 match d with
 | none=>true
 | some d=>(L.lookup d).isNone && d<m
def uU(L:List (Nat×Nat))(m:Nat)(d:Option Nat)(r:Nat):Bool:=
 match d with
 | none=>false
 | some d=>L.lookup d == some r && d<m
def OO(L:List (Nat×Nat))(d:Nat):List Nat:=(L.filter λp=>p.2 == d).map (·.1)
def Yi(P:Program)(t:TypeId):Option (Option Nat):=
 match P.underlying t,P.info? t with
 | some (.struct _),some i=>some (some i.size)
 | some (.array _ _),some i=>some (some i.size)
 | some _,some _=>some none
 | _,_=>none
def sU(P:Program)(t:TypeId)(f:Nat):Option (Nat×TypeId×Nat):=
 match P.underlying t with
 | some (.struct c)=>match c[f]? with
  | some f=>match P.info? f.type with
   | some i=>some (f.offset,f.type,i.size)
   | none=>none
  | none=>none
 | _=>none
def FQ(P:Program)(c:Array Field)(i:Nat):Option (Nat×Nat):=
 match c[i]? with
 | some f=>match P.info? f.type with
  | some i=>some (f.offset,i.size)
  | none=>none
 | none=>none
def UM(place:Nat->Option (Nat×Nat)):List (Nat×Operand)->Option (List (Nat×Nat×Operand))
 | []=>some []
 | (i,x) :: r=>match place i,UM place r with
  | some (off,sz),some c=>some ((off,sz,x) :: c)
  | _,_=>none
def Cr(P:Program)(c:Array Field):Bool:=c.all λf=>(P.info? f.type).isSome
def ZuV:BinOp->Bool
 | .sub=>true
 | _=>false
def kM(L:List (Nat×Nat)):Bool:=(L.lookup 999999).isSome
def ZuX(P:Program):Op->Bool
 | .binOp .. | .slice .. | .nilCheck _=>true
 | .convert s d _=>match P.underlying s,P.underlying d with
  | some (.int _),some (.int _)=>true
  | _,_=>false
 | .call { callee:=.builtin .max,.. } | .call { callee:=.builtin .min,.. }=>true
 | _=>false
def sZ(P:Program)(L:List (Nat×Nat))(op:Op)(c:TypeId):aR:=if ZuX P op && !(kM L)then .bT op c else .raw op c
def Yt(P:Program)(L:List (Nat×Nat))(m:Nat)(o:Oper):Option aR:=
 match o.op with
 | .move x=>if nl L x && eK L m o.dst then some (.cV x)else none
 | .assign x=>if nl L x && eK L m o.dst then some (.cV x)else none
 | .pick c a b=>if nl L c && nl L a && nl L b && eK L m o.dst then some (.pick c a b)else none
 | .unOp .not _ x=>if nl L x && eK L m o.dst then some (.not x)else none
 | .binOp op t x y _=>
  if nl L x && nl L y && eK L m o.dst then
   match P.underlying t with
   | some (.int _)=>if Zu0 op && !(kM L && ZuV op)then some (.bC op x y)else some (sZ P L o.op o.type)
   | _=>some (sZ P L o.op o.type)
  else none
 | .extract x i=>if nl L x && eK L m o.dst then some (.ext x i)else none
 | .field t x f=>
  if nl L x && eK L m o.dst then
   match sU P t f with
   | some (off,ft,_)=>match Yi P ft with
    | some n=>some (.iU off n x)
    | none=>none
   | none=>none
  else none
 | .alloc t=>
  match o.dst with
  | some d=>if L.lookup d == some d then
    match P.info? t with
    | some i=>match i.zero with
     | some z=>if d<m then some (.aO d (OO L d) z.cells.toList)else none
     | none=>none
    | none=>none
   else if eK L m o.dst then some (.raw o.op o.type)else none
  | none=>none
 | .box _ x=>
  match o.dst with
  | some d=>if L.lookup d == some d then(if nl L x && (d<m)then some (.aS d (OO L d) x)else none)else if nl L x && eK L m o.dst then some (.raw o.op o.type)else none
  | none=>none
 | .fieldAddr t x f=>
  match sU P t f with
  | some (off,_,sz)=>
   if sz == 0 then none else
   match x with
   | .tmp s=>match L.lookup s with
    | some d=>if uU L m o.dst d && !(o.dst == some d)then some (.aV off s)else none
    | none=>if eK L m o.dst then some (.aU off x)else none
   | _=>if eK L m o.dst then some (.aU off x)else none
  | none=>none
 | .indexAddr t x i=>
  if nl L i then
   match P.underlying t,x with
   | some (.array len e),.tmp s=>match L.lookup s,P.info? e with
    | some d,some g=>if uU L m o.dst d && !(o.dst == some d)then some (.dA g.size len s i)else none
    | _,_=>if eK L m o.dst && nl L x then some (.raw o.op o.type)else none
   | some (.slice e),x=>match P.info? e with
    | some g=>if nl L x && eK L m o.dst then some (.bX g.size x i)else none
    | none=>none
   | _,_=>none
  else none
 | .load t x=>
  if kM L then(if nl L x && eK L m o.dst then some (.eQ o.op o.type)else none)else
  if eK L m o.dst then
   match Yi P t with
   | some n=>match x with
    | .tmp s=>match L.lookup s with
     | some d=>some (.cY d n s)
     | none=>some (.ld n x)
    | _=>some (.ld n x)
   | none=>none
  else none
 | .store t x v=>
  if nl L v && o.dst.isNone then
   match P.info? t with
   | some i=>match x with
    | .tmp s=>match L.lookup s with
     | some d=>some (.kE d i.size s v)
     | none=>some (.raw o.op o.type)
    | _=>some (.raw o.op o.type)
   | none=>none
  else none
 | .call { callee:=.builtin .len,args:=args,argTypes:=ts }=>
  match args.toList,ts.toList with
  | [x],[t]=>if nl L x && eK L m o.dst then
    match P.underlying t with
    | some (.slice _)=>some (.len x)
    | _=>some (.raw o.op o.type)
   else none
  | _,_=>none
 | .call { callee:=.value (.func f),args:=args,argTypes:=_ }=>
  if(args.all (nl L)) && eK L m o.dst then
   match P.funcs[f]? with
   | some fn=>if fn.body.isSome && !(fn.name == "runtime.NumGoroutine")then some (.call f args.toList)else some (.raw o.op o.type)
   | none=>none
  else none
 | .build t h=>
  if(h.all λp=>nl L p.2) && eK L m o.dst then
   match P.underlying t,P.info? t with
   | some (.struct l),some i=>match i.zero,UM (FQ P l) h.toList with
    | some z,some j=>if Cr P l then some (.build z.cells.toList j)else none
    | _,_=>none
   | some (.array _ e),some i=>match i.zero,P.info? e with
    | some z,some g=>match UM (λk=>some (k * g.size,g.size)) h.toList with
     | some j=>some (.build z.cells.toList j)
     | none=>none
    | _,_=>none
   | _,_=>none
  else none
 | .buildSlice t len h=>
  if(h.all λp=>nl L p.2) && eK L m o.dst then
   match P.underlying t with
   | some (.slice e)=>match P.info? e with
    | some g=>match g.zero,UM (λk=>some (k * g.size,g.size)) h.toList with
     | some z,some j=>if len * g.size<=2 ^ 24 && !(len * g.size == 0)then some (.aX e len ((Array.range (len * g.size)).map (z.cells[· % z.cells.size]!)).toList j)else some (.raw o.op o.type)
     | _,_=>none
    | none=>none
   | _=>none
  else none
 | .select _ _=>none
 | _=>if(o.op.operands.all (nl L)) && eK L m o.dst then some (sZ P L o.op o.type)else none
def Ur{t:Nat}(h:¬t=d):Nat.beq t d=false:=by
 cases hb:Nat.beq t d with
 | false=>rfl
 | true=>exact absurd (qAV hb) h
def V8(L:List (Nat×Nat))(ρ:Nat->Nat)(t:Nat)(v c:Value):Prop:=
 match L.lookup t with
 | none=>c=v
 | some d=>v=undef\/∃off:Nat,v=.int .i64 off/\c=.pointer (some ⟨ρ d,off,none⟩)
structure cX(P:PQ)(L:List (Nat×Nat))(m:Nat)(σ:aL)(H:Hp)(a:Act)(Ha:Hp):Prop where
 size:a.tmps.size=m
 defers:OS a.defers=σ.bN
 mem:∃(ρ:Nat->Nat) (K:Hp),Ha=H.join K/\H.Comp K/\(∀d cs,σ.box d=some cs->∃t,K (ρ d)=some (.cells cs.toArray t (0,0),true)) /\
  (∀d d' cs dH,σ.box d=some cs->σ.box d'=some dH->ρ d=ρ d'->d=d')/\(∀t v,σ.env t=some v->V8 L ρ t v (a.tmps.getD t undef))/\U8 P K a.defers
def cX.get{P:PQ}{L:List (Nat×Nat)}{m:Nat}{σ:aL}{H:Hp}{a:Act}{Ha:Hp}(r:cX P L m σ H a Ha){x:Operand}(g:nl L x=true)(h:σ.get x=some v):a.eval x=v:=by
 obtain⟨ρ,K,_,_,_,_,j,_⟩:=r.mem;cases x with
 | tmp t=>
  have:=j t v h;unfold V8 at this;simp only[nl,qCr]at g;rw[g]at this;exact this
 | const c=>simp only[aL.get,aT]at h;exact h
 | func f=>simp only[aL.get,aT]at h;exact h
 | _=>simp only[aL.get,aT]at h;exact h
def N1(a:Act)(d t:Nat)(v:Value)(c:d<a.tmps.size):(put a (some d) v).tmps.getD t undef=if t=d then v else a.tmps.getD t undef:=by
 simp only[put,qBj,qBG];by_cases h:d=t
 ·subst h;simp[c]
 simp[h,qAm h]
def cX.set{P:PQ}{L:List (Nat×Nat)}{m:Nat}{σ:aL}{H:Hp}{a:Act}{Ha:Hp}(r:cX P L m σ H a Ha)(g:eK L m dst=true)(v:Value):cX P L m (σ.set dst v) H (put a dst v) Ha:=by
 cases dst with
 | none=>exact r
 | some d=>
  obtain⟨ρ,K,j,k,l,p,q,w⟩:=r.mem;simp only[eK,oR,qCr,qAv]at g;refine⟨by simp[put,r.size],r.defers,ρ,K,j,k,l,p,?_,w⟩;intro t u c;rw[N1 _ _ _ _ (by rw[r.size];exact g.2)];simp only[aL.set]at c;by_cases h:t=d
  ·subst h;simp at c;unfold V8;rw[g.1,BY rfl,c]
  have:Nat.beq t d=false:=Ur h;rw[this]at c;rw[bY h];exact q t u c
def cX.dR{P:PQ}{L:List (Nat×Nat)}{m:Nat}{σ:aL}{H:Hp}{a:Act}{Ha:Hp}(r:cX P L m σ H a Ha)(dst:Option Nat):cX P L m (σ.dR dst) H (put a dst undef) Ha:=by
 cases dst with
 | none=>exact r
 | some d=>
  obtain⟨ρ,K,j,k,l,p,q,w⟩:=r.mem;refine⟨by simp[put,r.size],r.defers,ρ,K,j,k,l,p,?_,w⟩;intro t u c;simp only[aL.dR]at c;by_cases h:t=d
  ·subst h;simp at c;subst c;unfold V8;split
   ·simp only[put,qBj,qBG];by_cases g:t<a.tmps.size<;>simp[g]
   exact .inl rfl
  have hb:Nat.beq t d=false:=Ur h;rw[hb]at c;have z:=q t u c;have:(put a (some d) undef).tmps.getD t undef=a.tmps.getD t undef:=by simp only[put,qBj,qBG,bY (qAm h)]
  rw[this];exact z
def cX.y8{P:PQ}{L:List (Nat×Nat)}{m:Nat}{σ:aL}{H:Hp}{a:Act}{Ha:Hp}(r:cX P L m σ H a Ha)(g:uU L m dst d=true){s:Nat}(F:L.lookup s=some d)(E:σ.env s=some (.int .i64 (n:Nat)))(k:Nat) :
  ∃b,a.tmps.getD s undef=.pointer (some ⟨b,n,none⟩)/\cX P L m (σ.set dst (.int .i64 (k:Nat))) H (put a dst (.pointer (some ⟨b,k,none⟩))) Ha:=by
 obtain⟨ρ,K,q,z,A,B,l,C⟩:=r.mem;have j:=l s _ E;unfold V8 at j;rw[F]at j;obtain⟨off,p,D⟩:=j.resolve_left (by simp[undef]);simp only[Value.int.injEq,true_and,Int.ofNat_inj]at p;subst p;refine⟨ρ d,D,?_⟩;cases dst with
 | none=>simp[uU]at g
 | some t=>
  simp only[uU,oR,beq_iff_eq,qAv]at g;refine⟨by simp[put,r.size],r.defers,ρ,K,q,z,A,B,?_,C⟩;intro u w c;rw[N1 _ _ _ _ (by rw[r.size];exact g.2)];simp only[aL.set]at c;by_cases h:u=t
  ·subst h;simp at c;unfold V8;rw[g.1,BY rfl];exact .inr ⟨k,c.symm,rfl⟩
  have:Nat.beq u t=false:=Ur h;rw[this]at c;rw[bY h];exact l u w c
def ZpZ(x:Sem α):x.bind Sem.pure=x:=by exact Nu
def Zp0{γ:Type}(x:Sem α)(f:α->Sem β)(k:β->Sem γ):(x.bind f).bind k=x.bind λa=>(f a).bind k:=by exact Nu
instance:LawfulMonad Sem:=LawfulMonad.mk' Sem (id_map:=λx=>ZpZ x) (pure_bind:=λ_ _=>rfl) (bind_assoc:=λx f k=>Zp0 x f k)
def Ze{P:PQ}{s:Sem α}{f:α->Sem β}{Q:β->Bool->Hp->Prop}:∀{g:Bool} {H:Hp},bD P (s >>= f) Q g H↔bD P s (λa g H=>bD P (f a) Q g H) g H:=by
 show ∀{g:Bool} {H:Hp},bD P (s.bind f) Q g H↔_;induction s with
 | pure a=>exact qCm
 | load m a k ih=>simp only[bD,Sem.bind,ih];exact trivial
 | store m a v k ih=>simp only[bD,Sem.bind,ih,qBw]
 | new o k ih=>simp only[bD,Sem.bind,ih,qBw]
 | shape r k ih=>simp only[bD,Sem.bind,ih,qBw]
 | freeze a n k ih=>simp only[bD,Sem.bind,ih,qBw]
 | frozen a k ih=>simp only[bD,Sem.bind,ih,qBw]
 | getObj r k ih=>simp only[bD,Sem.bind,ih,qBw]
 | setObj r o k ih=>simp only[bD,Sem.bind,ih,qBw]
 | choose q k ih=>simp only[bD,Sem.bind,ih,qBw]
 | sys c k ih=>exact qCm
 | program k ih=>simp only[bD,Sem.bind,ih,qBw]
 | mark m k ih=>simp only[bD,Sem.bind,ih,qBw]
 | halt h=>exact qCm
def Zi{P:PQ}(a:α)(Q:α->Bool->Hp->Prop)(g:Bool)(H:Hp):bD P (pure a:Sem α) Q g H↔Q a g H:=qCm
def Vu{P:PQ}(Q:Program->Bool->Hp->Prop)(g:Bool)(H:Hp):bD P program Q g H↔Q P g H:=qCm
def ZA{P:PQ}{d:TypeDesc}(h:P.underlying t=some d)(Q:TypeDesc->Bool->Hp->Prop)(g:Bool)(H:Hp):bD P (underlying t) Q g H↔Q d g H:=by simp only[underlying,Ze,Vu,h,Zi]
def OH{P:PQ}(h:P.info? t=some i)(Q:TypeInfo->Bool->Hp->Prop)(g:Bool)(H:Hp):bD P (typeInfo t) Q g H↔Q i g H:=by simp only[typeInfo,Ze,Vu,h,Zi]
def Yf{P:PQ}(h:P.info? t=some i)(Q:Nat->Bool->Hp->Prop)(g:Bool)(H:Hp):bD P (sizeOf t) Q g H↔Q i.size g H:=by simp only[sizeOf,Ze,OH h,Zi]
def Uu{P:PQ}{z:Value}(h:P.info? t=some i)(c:i.zero=some z)(Q:Value->Bool->Hp->Prop)(g:Bool)(H:Hp):bD P (zeroValue t) Q g H↔Q z g H:=by simp only[zeroValue,Ze,OH h,c,Zi]
def xR{P:PQ}(h:Yi P t=some (some n)):∃i,P.info? t=some i/\i.size=n/\∀(Q:Bool->Bool->Hp->Prop) g H,bD P (isAgg t) Q g H↔Q true g H:=by
 unfold Yi at h;split at h<;>simp only[aT,reduceCtorEq]at h
 ·rename_i k i c j;exact⟨i,j,h,λQ g H=>by simp only[isAgg,Ze,ZA c,Zi]⟩
 rename_i k e i c j;exact⟨i,j,h,λQ g H=>by simp only[isAgg,Ze,ZA c,Zi]⟩
def sJ{P:PQ}(h:Yi P t=some none):∀(Q:Bool->Bool->Hp->Prop) g H,bD P (isAgg t) Q g H↔Q false g H:=by
 unfold Yi at h;split at h<;>simp only[aT,reduceCtorEq]at h;rename_i d i k j c p;intro Q g H;simp only[isAgg,Ze,ZA c];cases d with
 | struct l=>exact(k _ rfl).elim
 | array n e=>exact(j _ _ rfl).elim
 | _=>simp only[Zi]
def yB{P:PQ}{o:Obj}{p:Bool}{a:Addr}{H:Hp}(q:P.still H.gh=false)(A:H a.block=some (o,p))(C:a.spot=none)(Q:Array Value->Bool->Hp->Prop)(g:Bool) :
  ∀(l:List Value) (i:Nat) (k:Array Value),(∀j,j<l.length->Obj.fT o (a.off+(i+j))=l[j]?)->Q (k++l.toArray) g H->bD P (loadCellsFrom a i l.length k) Q g H
 | [],i,k,_,h=>by simpa[loadCellsFrom,Zi]using h
 | c :: l,i,k,z,h=>by
  have B:=z 0 (by simp);simp only[qAI,loadCellsFrom,Ze];have hb:(a.add i).block=a.block:=by unfold Addr.add;split<;>rfl
  have u:(a.add i).off=a.off+i:=by unfold Addr.add;split<;>simp_all
  have w:(a.add i).spot=none:=by unfold Addr.add;split<;>simp_all
  refine⟨o,p,c,⟨q,by rw[hb];exact A⟩,rfl,w,by rw[u];simpa using B,?_⟩;refine yB q A C Q g l (i+1) (k.push c) (λj D=>?_) (by simpa using h);have:=z (j+1) (by simp;omega);simp only[qAW]at this;rw[<-this];congr 1;omega
section eL
variable{P:aY}{nr:Bool}{L:List (Nat×Nat)}{m:Nat}{o:Oper}{next:aL->Hp->Prop}{σ:aL}{H Ha:Hp}{a:Act}
abbrev Nx(P:PQ)(L:List (Nat×Nat))(m:Nat)(next:aL->Hp->Prop)(h:Act)(c:Hp):Prop:=∃σ' g,cX P L m σ' g h c/\next σ' g
def AU{N:Act->Hp->Prop}(h:execOp a.eval o=pure (.value v))(c:N (put a o.dst v) Ha):fR P nr o a N Ha:=by refine .inl ?_;rw[h];exact .inr c
def V2{N:Act->Hp->Prop}{s:Sem Value}(h:execOp a.eval o=(do pure (.value (<-s))))(j:bD P s (λv g c=>g=true\/N (put a o.dst v) c) false Ha):fR P nr o a N Ha:=by refine .inl ?_;rw[h,Ze];exact Vv (λv g c k=>k) j
def cX.heap{P:PQ}{L:List (Nat×Nat)}{m:Nat}{σ:aL}{H:Hp}{a:Act}{Ha:Hp}(r:cX P L m σ H a Ha){x:Obj×Bool}(h:H b=some x):Ha b=some x:=by obtain⟨ρ,K,c,_⟩:=r.mem;rw[c];exact Hp.aJ h
def cX.bB{P:PQ}{L:List (Nat×Nat)}{m:Nat}{σ:aL}{H:Hp}{a:Act}{Ha:Hp}(r:cX P L m σ H a Ha)(h:P.still H.gh=false):P.still Ha.gh=false:=by obtain⟨ρ,K,c,g,_⟩:=r.mem;rw[c];exact Uk g h
theorem vP{a:Addr}(c:a.spot=none)(n:Nat):a.add n=⟨a.block,a.off+n,none⟩:=by
 unfold Addr.add;split
 ·obtain⟨b,o,s⟩:=a;simp_all
 rfl
def cX.zE{P:PQ}{L:List (Nat×Nat)}{m:Nat}{σ:aL}{H:Hp}{a:Act}{Ha:Hp}(r:cX P L m σ H a Ha)(W:L.lookup d=some d)(X:d<m)(hb:Ha b=none)(I:List Value)(t:TypeId) :
  cX P L m (((σ.drop (OO L d)).set (some d) (.int .i64 0)).put d I) H (put a (some d) (.pointer (some ⟨b,0,none⟩))) (Ha.ins b (.cells I.toArray t)):=by
 obtain⟨ρ,K,O,S,Q,T,U,V⟩:=r.mem;rw[O]at hb;obtain⟨D,E⟩:=Hp.cI.1 hb;have N:∀t,L.lookup t=some d->(OO L d).elem t=true:=by
  intro t Z;have:(t,d)∈L:=by have:=qCB.1 Z;obtain⟨l1,l2,rfl,_⟩:=this;simp
  simp only[OO,List.elem_eq_mem,qAv,qAj,qAq,beq_iff_eq];exact⟨(t,d),⟨this,rfl⟩,rfl⟩
 have q:∀j g,j≠d->σ.box j=some g->ρ j≠b:=by intro j g _ p Y;obtain⟨R,c⟩:=Q j g p;rw[Y,E]at c;simp at c
 refine⟨by simp[put,r.size],r.defers,λx=>if x=d then b else ρ x,K.ins b (.cells I.toArray t),?_,?_,?_,?_,?_,?_⟩
 ·rw[O];refine Hp.ext' (λx=>?_) rfl;simp only[Hp.aQ,Hp.dB];by_cases z:x=b
  ·subst z;simp[D]
  simp[z]
 ·exact((S.symm).eE _ D).symm
 ·intro j g p;simp only[aL.put]at p;by_cases z:j=d
  ·subst z;simp at p;subst p;exact⟨t,by simp[Hp.dB]⟩
  rw[Ur z]at p;have c:σ.box j=some g:=by simpa[aL.set,aL.drop]using p
  obtain⟨R,l⟩:=Q j g c;exact⟨R,by simp only[bY z];rw[Hp.aE _ _ (q j g z c)];exact l⟩
 ·intro F G c1 c2 C c l;simp only[aL.put]at C c;by_cases A:F=d<;>by_cases B:G=d
  ·rw[A,B]
  ·rw[Ur B]at c;have M:σ.box G=some c2:=by simpa[aL.set,aL.drop]using c
   simp only[BY A,bY B]at l;exact absurd l.symm (q G c2 B M)
  ·rw[Ur A]at C;have J:σ.box F=some c1:=by simpa[aL.set,aL.drop]using C
   simp only[bY A,BY B]at l;exact absurd l (q F c1 A J)
  rw[Ur A]at C;rw[Ur B]at c;simp only[bY A,bY B]at l;exact T F G c1 c2 (by simpa[aL.set,aL.drop]using C) (by simpa[aL.set,aL.drop]using c) l
 ·intro u w k;rw[N1 _ _ _ _ (by rw[r.size];exact X)];simp only[aL.put,aL.set,aL.drop]at k;by_cases h:u=d
  ·subst h;simp at k;unfold V8;rw[W];exact .inr ⟨0,by simpa using k.symm,by simp⟩
  rw[Ur h]at k;simp only[cond_false]at k;rw[bY h];cases he:(OO L d).elem u with
  | true=>rw[he]at k;simp at k
  | false=>
   rw[he]at k;have c:=U u w k;unfold V8 at c ⊢;cases hl:L.lookup u with
   | none=>rw[hl]at c;exact c
   | some j=>
    rw[hl]at c;have:j≠d:=by rintro rfl;rw[N u hl]at he;simp at he
    simpa[this]using c
 exact V.ins λo' h=>by rw[E]at h;simp at h
end eL
end
section
variable{x y:Operand}{t e ft:TypeId}{i:TypeInfo}{f off sz s d:Nat}{n:Option Nat}
section eL
variable{P:aY}{nr:Bool}{L:List (Nat×Nat)}{m:Nat}{o:Oper}{next:aL->Hp->Prop}{σ:aL}{H Ha:Hp}{a:Act}{op:aR}
def Lw(c:o.op=.move x\/o.op=.assign x)(l:nl L x=true)(k:eK L m o.dst=true)(h:(aR.cV x).w P o.dst next σ H)(r:cX P L m σ H a Ha):fR P nr o a (Nx P L m next) Ha:=by obtain⟨v,g,j⟩:=h;refine AU (v:=v) ?_ ⟨_,_,r.set k v,j⟩;rcases c with c | c<;>simp[execOp,c,r.get l g]
def Zp4{c:Operand}(j:o.op=.pick c x y)(p:nl L c=true)(u:nl L x=true)(z:nl L y=true)(q:eK L m o.dst=true)(h:(aR.pick c x y).w P o.dst next σ H)(r:cX P L m σ H a Ha):fR P nr o a (Nx P L m next) Ha:=by
 obtain⟨t,v,k,g,l⟩:=h;refine AU (v:=v) ?_ ⟨_,_,r.set q v,l⟩;have e:=r.get p k;cases t with
 | true=>simp[execOp,j,e,asBool,r.get u g]
 | false=>simp[execOp,j,e,asBool,r.get z g]
def Zp5(k:o.op=.unOp .not t x)(l:nl L x=true)(j:eK L m o.dst=true)(h:(aR.not x).w P o.dst next σ H)(r:cX P L m σ H a Ha):fR P nr o a (Nx P L m next) Ha:=by obtain⟨b,c,g⟩:=h;refine AU (v:=.bool !b) ?_ ⟨_,_,r.set j _,g⟩;simp[execOp,k,r.get l c,Op.unary]
def Zqk{b:BinOp}{E:TypeId}(B:o.op=.binOp b t x y E)(C:nl L x=true)(D:nl L y=true)(A:eK L m o.dst=true)(h:(aR.bC b x y).w P o.dst next σ H)(r:cX P L m σ H a Ha):fR P nr o a (Nx P L m next) Ha:=by obtain⟨k,p,q,v,l,u,c,z⟩:=h;refine AU (v:=v) ?_ ⟨_,_,r.set A v,z⟩;have g:=r.get C l;have j:=r.get D u;cases b<;>simp[rB]at c<;>subst c<;>simp[execOp,B,g,j,eqGuard,binOp,Op.intArith,Op.intCmp]
def Zqf{i:Nat}(l:o.op=.extract x i)(p:nl L x=true)(k:eK L m o.dst=true)(h:(aR.ext x i).w P o.dst next σ H)(r:cX P L m σ H a Ha):fR P nr o a (Nx P L m next) Ha:=by obtain⟨q,v,c,g,j⟩:=h;refine AU (v:=v) ?_ ⟨_,_,r.set k v,j⟩;simp[execOp,l,r.get p c,Instr.extract,g]
def Zqb{k:Array TypeId}{aA:Array Operand}(z:o.op=.call { callee:=.builtin .len,args:=aA,argTypes:=k })(g:aA.toList=[x])(j:k.toList=[t])(A:P.underlying t=some (.slice e))(B:nl L x=true)(u:eK L m o.dst=true)
  (h:(aR.len x).w P o.dst next σ H) (r:cX P L m σ H a Ha):fR P nr o a (Nx P L m next) Ha:=by
 obtain⟨b,n,c,p,q⟩:=h;have l:=r.get B p;obtain⟨aA⟩:=aA;obtain⟨k⟩:=k;simp only at g j;subst g j;refine V2 (s:=Builtin.len_ #[t] o.type #[.slice b n c]) (by simp[execOp,z,resolve,invoke,builtin,l]) ?_;show bD P (underlying t >>= _) _ _ _;rw[Ze,ZA A];exact .inr ⟨_,_,r.set u _,q⟩
def W5(c:sU P t f=some (off,ft,sz)):∃g iU i,P.underlying t=some (.struct g)/\g[f]? = some iU/\P.info? iU.type=some i/\iU.offset=off/\iU.type=ft/\i.size=sz:=by
 unfold sU at c;cases hu:P.underlying t with
 | none=>rw[hu]at c;simp at c
 | some d=>
  rw[hu]at c;cases d with
  | struct g=>
   simp only at c;cases hfld:g[f]? with
   | none=>rw[hfld]at c;simp at c
   | some iU=>
    rw[hfld]at c;simp only at c;cases hi:P.info? iU.type with
    | none=>rw[hi]at c;simp at c
    | some i=>
     rw[hi]at c;simp only[aT,qAL]at c;exact⟨g,iU,i,rfl,hfld,hi,c.1,c.2.1,c.2.2⟩
  | _=>simp at c
def Zqe(B:o.op=.field t x f)(A:sU P t f=some (off,ft,sz))(l:Yi P ft=some n)(F:nl L x=true)(k:eK L m o.dst=true)(h:(aR.iU off n x).w P o.dst next σ H)(r:cX P L m σ H a Ha):fR P nr o a (Nx P L m next) Ha:=by
 obtain⟨p,q,j⟩:=h;refine V2 (s:=Instr.field t (.agg p) f) (by simp[execOp,B,r.get F q]) ?_;obtain⟨G,iU,i,E,c,I,rfl,rfl,rfl⟩:=W5 A;unfold Instr.field;rw[Ze,ZA E];simp only[c,asAgg,Ze,Zi,part];cases n with
 | none=>
  obtain⟨v,u,z⟩:=j;rw[sJ l];simp only[dO,qAf,u,Zi];exact .inr ⟨_,_,r.set k _,z⟩
 | some n=>
  obtain⟨J,g,D,C⟩:=xR l;rw[C];simp only[qAH,Ze,Yf g,Zi,D];exact .inr ⟨_,_,r.set k _,j⟩
def W4{b:Addr}(h:sU P t f=some (off,ft,sz))(l:sz≠0)(Q:Value->Bool->Hp->Prop)(g:Bool)(H:Hp):bD P (Instr.fieldAt t (.pointer (some b)) f) Q g H↔Q (.pointer (some (b.add off))) g H:=by obtain⟨p,iU,i,k,c,j,rfl,rfl,rfl⟩:=W5 h;unfold Instr.fieldAt;rw[Ze,ZA k];simp only[c,Instr.sureAddr,Ze,Zi,fieldPlace,Yf j,l,qAf]
def Lu(l:o.op=.fieldAddr t x f)(k:sU P t f=some (off,ft,sz))(q:sz≠0)(p:nl L x=true)(j:eK L m o.dst=true)(h:(aR.aU off x).w P o.dst next σ H)(r:cX P L m σ H a Ha):fR P nr o a (Nx P L m next) Ha:=by obtain⟨b,c,g⟩:=h;refine V2 (s:=Instr.fieldAt t (.pointer (some b)) f) (by simp[execOp,l,r.get p c]) ?_;rw[W4 k q];exact .inr ⟨_,_,r.set j _,g⟩
def Zqa(q:o.op=.fieldAddr t (.tmp s) f)(p:sU P t f=some (off,ft,sz))(z:sz≠0)(u:L.lookup s=some d)(l:uU L m o.dst d=true)(h:(aR.aV off s).w P o.dst next σ H)(r:cX P L m σ H a Ha):fR P nr o a (Nx P L m next) Ha:=by obtain⟨n,c,g⟩:=h;obtain⟨b,j,k⟩:=r.y8 l u c (n+off);refine V2 (s:=Instr.fieldAt t (.pointer (some ⟨b,n,none⟩)) f) (by simp only[execOp,q,Act.eval,j]) ?_;rw[W4 p z,vP rfl];exact .inr ⟨_,_,k,g⟩
def Zqd(z:o.op=.indexAddr t x y)(A:P.underlying t=some (.slice e))(u:P.info? e=some i)(B:nl L x=true)(C:nl L y=true)(q:eK L m o.dst=true)(h:(aR.bX i.size x y).w P o.dst next σ H)(r:cX P L m σ H a Ha):fR P nr o a (Nx P L m next) Ha:=by obtain⟨b,ln,cap,k,n,c,g,j,l,p⟩:=h;refine V2 (s:=Instr.indexAt t (.slice (some b) ln cap) (.int k n)) (by simp[execOp,z,r.get B c,r.get C g]) ?_;unfold Instr.indexAt;simp only[asIntOf,Ze,Zi,ZA A];simp only[j,l,and_self,qAH,Ze,Yf u,Zi];exact .inr ⟨_,_,r.set q _,p⟩
def Zp9{len:Nat}(C:o.op=.indexAddr t (.tmp s) y)(E:P.underlying t=some (.array len e))(B:P.info? e=some i)(D:L.lookup s=some d)(F:nl L y=true)(A:uU L m o.dst d=true)(h:(aR.dA i.size len s y).w P o.dst next σ H)(r:cX P L m σ H a Ha):fR P nr o a (Nx P L m next) Ha:=by obtain⟨n,k,j,c,g,l,p,q⟩:=h;obtain⟨b,u,z⟩:=r.y8 A D c (n+j.toNat * i.size);refine V2 (s:=Instr.indexAt t (.pointer (some ⟨b,n,none⟩)) (.int k j)) (by have:=r.get F g;simp only[execOp,C,this];simp only[Act.eval,u]) ?_;unfold Instr.indexAt;simp only[asIntOf,Ze,Zi,ZA E,Instr.sureAddr];simp only[l,p,and_self,qAH,Ze,Yf B,Zi,vP];exact .inr ⟨_,_,z,q⟩
def Lv(F:o.op=.load t x)(B:Yi P t=some n)(J:nl L x=true)(A:eK L m o.dst=true)(h:(aR.ld n x).w P o.dst next σ H)(r:cX P L m σ H a Ha):fR P nr o a (Nx P L m next) Ha:=by
 obtain⟨c,b,K,p,D,q,u,z⟩:=h;refine V2 (s:=Instr.loadAt t (.pointer (some b))) (by simp[execOp,F,r.get J D]) ?_;simp only[Instr.loadAt,Instr.sureAddr,Ze,Zi,loadVar];cases n with
 | none=>
  obtain⟨v,g,k⟩:=z;rw[sJ B];simp only[dO,qAf];exact⟨K,p,v,⟨r.bB c,r.heap u⟩,rfl,q,g,.inr ⟨_,_,r.set A _,k⟩⟩
 | some n=>
  obtain⟨C,rfl,g,k⟩:=z;obtain⟨M,l,I,G⟩:=xR B;rw[G];simp only[qAH,Ze,Yf l,Zi,I,loadCells];refine yB (r.bB c) (r.heap u) q _ _ C 0 #[] (λj E=>by rw[qAP];exact g j E) ?_;exact .inr ⟨_,_,by simpa using r.set A _,k⟩
end eL
end
variable{t:TypeId}{d s:Nat}{i:TypeInfo}{x:Operand}
section eL
variable{P:aY}{nr:Bool}{L:List (Nat×Nat)}{m:Nat}{o:Oper}{next:aL->Hp->Prop}{σ:aL}{H Ha:Hp}{a:Act}{op:aR}
def Zp6{z:Value}(l:o.op=.alloc t)(g:o.dst=some d)(c:L.lookup d=some d)(k:d<m)(j:P.info? t=some i)(q:i.zero=some z)
  (h:(aR.aO d (OO L d) z.cells.toList).w P o.dst next σ H) (r:cX P L m σ H a Ha):fR P nr o a (Nx P L m next) Ha:=by
 obtain⟨p,h⟩:=h;refine V2 (s:=Instr.alloc t true (.tuple #[])) (by simp[execOp,l]) ?_;simp only[Instr.alloc,Ze,Uu j q];simp only[newVar,newRow,Ze,newObj];refine⟨r.bB p,λb hb=>?_⟩;rw[g];refine .inr ⟨_,_,?_,h⟩;have:=r.zE c k hb z.cells.toList t;simpa using this
def Zqc(p:o.op=.box t x)(k:o.dst=some d)(j:L.lookup d=some d)(l:d<m)(u:nl L x=true)
  (h:(aR.aS d (OO L d) x).w P o.dst next σ H) (r:cX P L m σ H a Ha):fR P nr o a (Nx P L m next) Ha:=by
 obtain⟨q,v,c,g⟩:=h;refine V2 (s:=Instr.box t v) (by simp[execOp,p,r.get u c]) ?_;simp only[Instr.box,Ze,newVar,newRow,newObj];refine⟨r.bB q,λb hb=>?_⟩;rw[k];refine .inr ⟨_,_,?_,g⟩;have:=r.zE j l hb v.cells.toList t;simpa using this
def cX.place{P:PQ}{L:List (Nat×Nat)}{m:Nat}{σ:aL}{H:Hp}{a:Act}{Ha:Hp}(r:cX P L m σ H a Ha){n:Nat}{c:List Value}(w:L.lookup s=some d)(u:σ.env s=some (.int .i64 (n:Nat)))(hb:σ.box d=some c) :
  ∃b t,a.tmps.getD s undef=.pointer (some ⟨b,n,none⟩)/\Ha b=some (.cells c.toArray t (0,0),true):=by
 obtain⟨ρ,K,j,k,l,A,p,B⟩:=r.mem;have g:=p s _ u;unfold V8 at g;rw[w]at g;obtain⟨off,h,q⟩:=g.resolve_left (by simp[undef]);simp only[Value.int.injEq,true_and,Int.ofNat_inj]at h;subst h;obtain⟨t,z⟩:=l d c hb;exact⟨ρ d,t,q,by rw[j];exact Hp.aP k z⟩
def Zp8{n:Option Nat}(K:o.op=.load t (.tmp s))(F:Yi P t=some n)(N:L.lookup s=some d)(D:eK L m o.dst=true)(h:(aR.cY d n s).w P o.dst next σ H)(r:cX P L m σ H a Ha):fR P nr o a (Nx P L m next) Ha:=by
 obtain⟨l,off,A,I,J,B⟩:=h;obtain⟨b,Q,q,k⟩:=r.place N I J;refine V2 (s:=Instr.loadAt t (.pointer (some ⟨b,off,none⟩))) (by simp only[execOp,K,Act.eval,q]) ?_;simp only[Instr.loadAt,Instr.sureAddr,Ze,Zi,loadVar];cases n with
 | none=>
  obtain⟨v,C,p⟩:=B;rw[sJ F];simp only[dO,qAf];exact⟨_,_,v,⟨r.bB l,k⟩,rfl,rfl,by simpa[Obj.fT]using C,.inr ⟨_,_,r.set D _,p⟩⟩
 | some n=>
  obtain⟨C,p⟩:=B;obtain⟨O,u,z,M⟩:=xR F;rw[M];simp only[qAH,Ze,Yf u,Zi,z,loadCells];have c:((A.drop off).take n).length=n:=by simp;omega
  have:=yB (P:=P) (a:=⟨b,off,none⟩) (r.bB l) k rfl (λv g G=>g=true\/Nx P L m next (put a o.dst (.agg v)) G) false ((A.drop off).take n) 0 #[] (λj E=>by simp only[Obj.fT,qAP,qAt];rw[qBo,qBp,BY (by rw[c]at E;exact E)]) (.inr ⟨_,_,by simpa using r.set D _,p⟩);rw[c]at this;exact this
def vM{P:PQ}{b:Nat}{t:TypeId}(Q:Unit->Bool->Hp->Prop)(g:Bool):∀(j:List Value) (off i:Nat) (c:List Value) (H:Hp),P.still H.gh=false->H b=some (.cells c.toArray t (0,0),true)->(j.all Value.bS)=true->off+i+j.length<=c.length ->
  Q () g (H.ins b (.cells (c.take (off+i)++j++c.drop (off+i+j.length)).toArray t (0,0)))->bD P (storeCells ⟨b,off,none⟩ j i) Q g H
 | [],off,i,c,H,_,hb,_,_,h=>by
  have:H.ins b (.cells (c.take (off+i)++[]++c.drop (off+i+([]:List Value).length)).toArray t (0,0))=H:=by
   refine Hp.ext' (λx=>?_) rfl;by_cases p:x=b
   ·subst p;simp[Hp.dB,hb]
   rw[Hp.aE _ _ p]
  rw[this]at h;exact h
 | v :: j,off,i,c,H,l,hb,q,A,h=>by
  simp only[List.all_cons,oR]at q;simp only[qAI]at A;simp only[storeCells,Ze,store];have z:(⟨b,off,none⟩:Addr).add i=⟨b,off+i,none⟩:=by rw[vP rfl]
  rw[z];have u:off+i<c.length:=O;refine⟨_,⟨l,hb⟩,rfl,rfl,q.1,?_,by simp[Obj.fF],?_⟩
  ·simp[Obj.fT,u]
  have e:Obj.put (.cells c.toArray t (0,0)) (off+i) v=.cells (c.set (off+i) v).toArray t (0,0):=by simp[Obj.put]
  rw[e];refine vM Q g j off (i+1) (c.set (off+i) v) _ l (Hp.aD _ _ _) q.2 (by simp;omega) ?_;have w:(H.ins b (.cells (c.set (off+i) v).toArray t (0,0))).ins b (.cells ((c.set (off+i) v).take (off+(i+1))++j++(c.set (off+i) v).drop (off+(i+1)+j.length)).toArray t (0,0))=H.ins b (.cells (c.take (off+i)++(v :: j)++c.drop (off+i+(v :: j).length)).toArray t (0,0)):=by
   refine Hp.ext' (λx=>?_) rfl;by_cases p:x=b
   ·subst p;simp only[Hp.aD,aT,qAL,qBP,Obj.cells.injEq];refine qAQ List.toArray ?_;rw[List.drop_set_of_lt O];have:(c.set (off+i) v).take (off+(i+1))=c.take (off+i)++[v]:=by rw[<-qCl,iO (by simp;omega)];rw[qCP O];simp
    rw[this];simp only[qAS,List.singleton_append,qAI];congr 3;omega
   simp only[Hp.aE _ _ p]
  rw[w];exact h
def Zp7(ho:o.op=.store t (.tmp s) x)(hi:P.info? t=some i)(hs:L.lookup s=some d)(hx:nl L x=true)(hd:o.dst=none)(h:(aR.kE d i.size s x).w P o.dst next σ H)(r:cX P L m σ H a Ha):fR P nr o a (Nx P L m next) Ha:=by
 obtain⟨M,off,j,v,X,q,Y,U,h5,Z,h7⟩:=h;obtain⟨ρ,K,Q,G,R,S,T,W⟩:=r.mem;have I:=T s _ X;unfold V8 at I;rw[hs]at I;obtain⟨V,p,hp⟩:=I.resolve_left (by simp[undef]);simp only[Value.int.injEq,true_and,Int.ofNat_inj]at p;subst p;obtain⟨O,u⟩:=R d j q;have J:Ha (ρ d)=some (.cells j.toArray O (0,0),true):=by rw[Q];exact Hp.aP G u
 refine .inl ?_;have:execOp a.eval o=(do (Instr.storeAt t (.pointer (some ⟨ρ d,off,none⟩)) v);pure .skip:Sem Next):=by simp only[execOp,ho,r.get hx Y];simp only[Act.eval,hp]
 rw[this,Ze];simp only[Instr.storeAt,Instr.sureAddr,Ze,Zi,storeVar,Yf hi,U,ne_eq,not_true_eq_false,qAf];refine vM _ _ v.cells.toList off 0 j Ha (r.bB M) J Z (by simp only[qCn];omega) ?_;refine .inr ⟨σ.put d (j.take off++v.cells.toList++j.drop (off+i.size)),H,?_,h7⟩;rw[hd];have hH:H (ρ d)=none:=G.left_none u;refine⟨r.size,r.defers,ρ,K.ins (ρ d) (.cells (j.take off++v.cells.toList++j.drop (off+i.size)).toArray O (0,0)),?_,?_,?_,?_,T,W.ins λo' h=>by rw[u]at h;simp at h;rintro c rfl;simp at h⟩
 ·rw[Q];refine Hp.ext' (λy=>?_) rfl;simp only[Hp.aQ,Hp.dB];by_cases g:y=ρ d
  ·subst g;simp[hH,<-U]
  simp[g]
 ·exact((G.symm).fE u).symm
 ·intro D l k;simp only[aL.put]at k;by_cases g:D=d
  ·subst g;simp at k;subst k;exact⟨O,by simp[Hp.dB]⟩
  rw[Ur g]at k;obtain⟨t',h9⟩:=R D l k;exact⟨t',by rw[Hp.aE _ _ (λe=>g (S D d l j k q e))];exact h9⟩
 intro E F c1 c2 k1 N k3;have z:∃c,σ.box E=some c:=by
  simp only[aL.put]at k1;by_cases g:E=d
  ·rw[g];exact⟨_,q⟩
  rw[Ur g]at k1;exact⟨_,k1⟩
 have A:∃c,σ.box F=some c:=by
  simp only[aL.put]at N;by_cases g:F=d
  ·rw[g];exact⟨_,q⟩
  rw[Ur g]at N;exact⟨_,N⟩
 obtain⟨B,z⟩:=z;obtain⟨C,A⟩:=A;exact S E F B C z A k3
end eL
