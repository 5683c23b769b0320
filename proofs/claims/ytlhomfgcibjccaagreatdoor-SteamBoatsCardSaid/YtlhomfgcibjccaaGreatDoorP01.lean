import Derived.Test.YtlhomfgcibjccaaGreatDoorP00
set_option linter.all false
namespace Go.LL
section
variable{r:Nat}{o:Obj}{P:aX}{f:FuncId}{ds:List Deferred}{d:Deferred}
def Zh8{G:Prop} (h:G:=by
  intro G c cs jQ hG;have h0:=h (λfr jX H'=>jX=cs/\∃v H1 J,fr=c.finish v/\H'=H1.join J/\H1.Comp J/\Post v H1) c cs ?_ ?_
  ·refine(h0.frame hc).bind ?_;rintro fr jX HF ⟨H',rfl,TD,rfl,v,H1,J,rfl,rfl,hj,hp⟩;have c1:H1.Comp F:=TD.of_join_left;have c2:J.Comp F:=Hp.Comp.dH hj TD;rw[Hp.fS c2.symm];exact(hG v _ ⟨H1,rfl,c1,hp⟩).up jQ (Hp.Comp.gU hj c2.symm)
  ·rintro fr jX H' J hJ ⟨rfl,v,H1,J1,rfl,rfl,hj,hp⟩;exact⟨rfl,v,H1,J1.join J,rfl,Hp.dR _ _ _,hj.join_r hJ.of_join_left,hp⟩
  intro v H' hp;exact .stop ⟨rfl,v,H',.nil,rfl,(Hp.eG H').symm,Hp.eQ H',hp⟩):G:=h
def Hp.kA(H F:Hp)(r:Nat)(o:Obj):(H.ins r o).join F=(H.join F).ins r o:=by refine Hp.ext' (λb=>?_) rfl;simp only[Hp.bH,Hp.eM];by_cases h:b=r<;>simp[h]
def Hp.Comp.kB{H F:Hp}(g:H.Comp F){k:Obj}(h:H r=some (k,true)):(H.ins r o).Comp F:=by
 refine⟨?_,g.gh⟩;intro b x y c j;simp only[Hp.eM]at c;split at c
 ·subst b;have:=g r _ y h j;simp at this
 exact g b x y c j
def Hp.Comp.hY{H F:Hp}(j:H.Comp F)(o:Obj)(h:F r=none):(H.ins r o).Comp F:=by
 refine⟨?_,j.gh⟩;intro b x y c g;simp only[Hp.eM]at c;split at c
 ·subst b;rw[h]at g;simp at g
 exact j b x y c g
def Hp.Comp.right_none{H F:Hp}(c:H.Comp F)(h:H r=some (o,true)):F r=none:=by
 cases g:F r with
 | none=>rfl
 | some y=>have:=c r _ y h g;simp at this
def Hp.Comp.left_none{H F:Hp}(j:H.Comp F)(h:F r=some (o,true)):H r=none:=by
 cases k:H r with
 | none=>rfl
 | some y=>
  obtain⟨g,c⟩:=j r _ _ k h;rw[g]at c;simp at c
theorem Aa{P:PQ}{α:Type}{s:Sem α}{Q:α->Bool->Hp->Prop}{F:Hp}:∀{g:Bool} {H:Hp},bL P s Q g H->H.Comp F ->
  bL P s (λa g G=>∃E,G=E.join F/\E.Comp F/\Q a g E) g (H.join F):=by
 induction s with
 | pure a=>exact λh l=>⟨_,rfl,l,h⟩
 | load m a k ih=>exact λ⟨o,p,v,u,z,A,B,C⟩ l=>⟨o,p,v,⟨Ub l u.1,Hp.aW u.2⟩,z,A,B,ih v C l⟩
 | store m a v k ih=>exact λ⟨o,u,z,A,B,C,I,J⟩ l=>⟨o,⟨Ub l u.1,Hp.aW u.2⟩,z,A,B,C,I,by rw[<-Hp.kA];exact ih J (l.kB u.2)⟩
 | new o k ih=>
  intro g H h l;refine⟨Ub l h.1,λr K=>?_⟩;obtain⟨u,z⟩:=Hp.eF.1 K;rw[<-Hp.kA];exact ih r (h.2 r u) (l.hY o z)
 | shape r k ih=>exact λ⟨o,p,u,z⟩ l=>⟨o,p,⟨Ub l u.1,Hp.aW u.2⟩,ih _ z l⟩
 | freeze a n k ih=>exact λh l=>h.imp (λ⟨u,z⟩=>⟨u,ih z l⟩) (λ⟨o,u,z,A⟩=>⟨o,⟨Ub l u.1,Hp.aW u.2⟩,z,by rw[<-Hp.kA];exact ih A (l.kB u.2)⟩)
 | frozen a k ih=>exact λ⟨o,p,u,z⟩ l=>⟨o,p,⟨Ub l u.1,Hp.aW u.2⟩,ih _ z l⟩
 | getObj r k ih=>exact λ⟨o,p,u,z,A,B⟩ l=>⟨o,p,⟨Ub l u.1,Hp.aW u.2⟩,z,A,ih _ B l⟩
 | setObj r o k ih=>exact λ⟨M,u,z,A,B,C⟩ l=>⟨M,⟨Ub l u.1,Hp.aW u.2⟩,z,A,B,by rw[<-Hp.kA];exact ih C (l.kB u.2)⟩
 | choose q k ih=>
  intro g H h l;by_cases D:q.forced=true
  ·simp only[bL,D,qBp]at h ⊢;exact ih _ h l
  simp only[bL,D]at h ⊢;exact⟨Ub l h.1,λt=>ih _ (h.2 t) l⟩
 | sys c k ih=>exact λh _=>h
 | program k ih=>exact λh l=>ih _ h l
 | mark m k ih=>exact λ⟨u,z⟩ l=>⟨u.imp id λh=>⟨h.1,Ub l h.2⟩,ih z l⟩
 | halt h=>exact λh _=>h
theorem Hp.dR(H F J:Hp):(H.join F).join J=H.join (F.join J):=by refine Hp.ext' (λb=>?_) (by simp only[Hp.bZ,qAW]);simp only[Hp.bH];cases H b<;>rfl
def Hp.Comp.symm{H F:Hp}(h:H.Comp F):F.Comp H:=⟨λb x y c g=>by obtain⟨e,p⟩:=h b y x g c;exact⟨e.symm,by rw[<-e];exact p⟩,h.gh.symm⟩
def Hp.nD{H F:Hp}(h:H.Comp F):H.join F=F.join H:=by
 refine Hp.ext' (λb=>?_) (by simp only[Hp.bZ];rcases h.gh with e | e<;>simp[e]);simp only[Hp.bH];cases h1:H b with
 | none=>cases c:F b<;>simp
 | some x=>
  cases c:F b with
  | none=>rfl
  | some y=>simp[(h b x y h1 c).1]
theorem Hp.Comp.of_join_left{H F J:Hp}(h:(H.join F).Comp J):H.Comp J:=⟨λb x y c g=>h b x y (Hp.aW c) g,h.gh.imp (λe=>(List.append_eq_nil_iff.1 e).1) id⟩
theorem Hp.Comp.dH{H F J:Hp}(j:H.Comp F)(h:(H.join F).Comp J):F.Comp J:=⟨λb x y c g=>h b x y (Hp.bC j c) g,h.gh.imp (λe=>(List.append_eq_nil_iff.1 e).2) id⟩
def Hp.Comp.gU{H F J:Hp}(j:H.Comp J)(k:F.Comp J):(H.join F).Comp J:=by
 refine⟨λb x y c l=>?_,?_⟩
 ·simp only[Hp.bH]at c;cases hh:H b with
  | none=>rw[hh]at c;exact k b x y c l
  | some z=>rw[hh]at c;exact j b x y (by rw[hh];exact c) l
 rcases j.gh with g | g
 ·rcases k.gh with h | h
  ·exact .inl (by simp[Hp.bZ,g,h])
  exact .inr h
 exact .inr g
def Hp.eG(H:Hp):H.join .nil=H:=Hp.ext' (λb=>by simp only[Hp.bH];cases H b<;>rfl) (by simp[Hp.bZ,Hp.nil])
def Hp.eQ(H:Hp):H.Comp .nil:=⟨λ_ _ _ _ h=>by simp[Hp.nil]at h,.inr rfl⟩
def Hp.Comp.join_r{H F J:Hp}(c:H.Comp F)(g:H.Comp J):H.Comp (F.join J):=(Hp.Comp.gU c.symm g.symm).symm
def Hp.fS{H F J:Hp}(h:F.Comp J):(H.join J).join F=(H.join F).join J:=by rw[Hp.dR,Hp.dR,Hp.nD h]
def Zc.frame{args:Array Value}{H F:Hp}{Post:Value->Hp->Prop}(h:Zc P f args H Post)(hc:H.Comp F) :
  Zc P f args (H.join F) (λv HF=>∃H',HF=H'.join F/\H'.Comp F/\Post v H'):=by
 exact Zh8
def UX.frame{l:Nat}{tmps:Array Value}{assign body:Code}{H F:Hp}{Post:Value->Hp->Prop}(h:UX P l f tmps assign body H Post)(hc:H.Comp F) :
  UX P l f tmps assign body (H.join F) (λv HF=>∃H',HF=H'.join F/\H'.Comp F/\Post v H'):=by
 exact Zh8
def Zk.frame{s:Sem Next}{C nr:Bool}{H F:Hp}{g:Value->Hp->Prop}(h:Zk P s C nr H g)(N:H.Comp F) :
  Zk P s C nr (H.join F) (λv A=>∃c,A=c.join F/\c.Comp F/\g v c):=by
 intro G w B cs z M I;have E:=h (λu k c=>k=cs/\∃v j J,u=B v/\c=j.join J/\j.Comp J/\g v j) w B cs ?_ M ?_
 ·refine(E.frame N).bind ?_;rintro u k A ⟨c,rfl,l,rfl,v,j,J,rfl,rfl,q,p⟩;have c1:j.Comp F:=l.of_join_left;have c2:J.Comp F:=Hp.Comp.dH q l;rw[Hp.fS c2.symm];exact(I v _ ⟨j,rfl,c1,p⟩).up z (Hp.Comp.gU q c2.symm)
 ·rintro u k c J K ⟨rfl,v,j,D,rfl,rfl,q,p⟩;exact⟨rfl,v,j,D.join J,rfl,Hp.dR _ _ _,q.join_r K.of_join_left,p⟩
 intro v c p;exact .stop ⟨rfl,v,c,.nil,rfl,(Hp.eG c).symm,Hp.eQ c,p⟩
def LX(d:Deferred):Bool:=
 match d.target with
 | .collected _=>true
 | _=>false
def Vu:List Deferred->List Nat
 | []=>[]
 | d :: ds=>match d.target with
  | .collected r=>r :: Vu ds
  | _=>Vu ds
def Oy:List Deferred->List Deferred
 | []=>[]
 | d :: ds=>if LX d then Oy ds else d :: Oy ds
def UZ(P:PQ)(K:Hp)(ds:List Deferred):Prop:=(Vu ds).Nodup/\(∀r∈Vu ds,K r=some (.deferred (some []),true))/\(Vu ds=[]\/∀g,P.still g=false)
def UZ.nil(P:PQ)(K:Hp):UZ P K []:=⟨List.nodup_nil,λr h=>by simp[Vu]at h,.inl rfl⟩
def UZ.ins{P:PQ}{K:Hp}(h:UZ P K ds)(k:∀j,K r=some (j,true)->∀c,j≠.deferred c):UZ P (K.ins r o) ds:=
 ⟨h.1,λx l=>by
  have g:=h.2.1 x l;by_cases e:x=r
  ·subst e;exact absurd rfl (k _ g _)
  rw[Hp.aH _ _ e];exact g,h.2.2⟩
theorem Zly(c:LX d=false):Vu (d :: ds)=Vu ds:=by
 unfold LX at c;simp only[Vu];split at c
 ·simp at c
 rfl
def UZ.plain{P:PQ}{K:Hp}(h:UZ P K ds)(hd:LX d=false):UZ P K (d :: ds):=by unfold UZ;rw[Zly hd];exact h
def QH:Op->Bool
 | .defer _=>true
 | _=>false
structure aM where
 env:Nat->Option Value
 box:Nat->Option (List Value)
 dQ:List Deferred
def aM.set(σ:aM)(d:Option Nat)(v:Value):aM:=
 match d with
 | none=>σ
 | some d=>{ σ with env:=λt=>bif Nat.beq t d then some v else σ.env t }
def aM.fB(σ:aM)(d:Option Nat):aM:=
 match d with
 | none=>σ
 | some d=>{ σ with env:=λt=>bif Nat.beq t d then some undef else σ.env t }
def aM.drop(σ:aM)(c:List Nat):aM:={ σ with env:=λt=>bif c.elem t then none else σ.env t }
def aM.put(σ:aM)(d:Nat)(cs:List Value):aM:={ σ with box:=λt=>bif Nat.beq t d then some cs else σ.box t }
def aM.get(σ:aM):Operand->Option Value
 | .tmp t=>σ.env t
 | .const v=>some v
 | .global g=>some (.pointer (some ⟨g,0,none⟩))
 | .func f=>some (.func (.func f) #[] #[])
def aM.gets(σ:aM):List Operand->Option (List Value)
 | []=>some []
 | x :: r=>match σ.get x,σ.gets r with
  | some v,some c=>some (v :: c)
  | _,_=>none
inductive bE where
 | cY (x:Operand)
 | pick (c a b:Operand)
 | aY (op:BinOp) (x y:Operand)
 | not (x:Operand)
 | ext (x:Operand) (i:Nat)
 | lR (off:Nat) (n:Option Nat) (x:Operand)
 | aN (off:Nat) (x:Operand)
 | bQ (bV:Nat) (x i:Operand)
 | ld (n:Option Nat) (x:Operand)
 | len (x:Operand)
 | aQ (d:Nat) (ts:List Nat) (z:List Value)
 | aP (d:Nat) (ts:List Nat) (x:Operand)
 | aU (off t:Nat)
 | fC (bV len t:Nat) (i:Operand)
 | dA (d:Nat) (n:Option Nat) (t:Nat)
 | qU (d n t:Nat) (x:Operand)
 | call (f:FuncId) (args:List Operand)
 | build (z:List Value) (ps:List (Nat×Nat×Operand))
 | aO (e:TypeId) (len:Nat) (z:List Value) (ps:List (Nat×Nat×Operand))
 | raw (op:Op) (ty:TypeId)
 | jJ (op:Op) (ty:TypeId)
 | bU (op:Op) (ty:TypeId)
def ZG(z:List Value)(off:Nat)(c:List Value):List Value:=z.take off++c++z.drop (off+c.length)
def buildV(σ:aM):List (Nat×Nat×Operand)->List Value->Option (List Value)
 | [],z=>some z
 | (off,sz,x) :: r,z=>
  match σ.get x with
  | some v=>bif Nat.beq v.cells.size sz && Nat.ble (off+sz) z.length then buildV σ r (ZG z off v.cells.toList)else none
  | none=>none
def EG(op:BinOp)(k:IntKind)(m n:Int):Option Value:=
 match op with
 | .add=>some (.int k (k.wrap (m+n)))
 | .sub=>some (.int k (k.wrap (m-n)))
 | .mul=>some (.int k (k.wrap (m * n)))
 | .eql=>some (.bool (m == n))
 | .neq=>some (.bool (m != n))
 | .lss=>some (.bool (m<n))
 | .leq=>some (.bool (m<=n))
 | .gtr=>some (.bool (m > n))
 | .geq=>some (.bool (m ≥ n))
 | _=>none
def Zui(op:BinOp):Bool:=
 match op with
 | .add | .sub | .mul | .eql | .neq | .lss | .leq | .gtr | .geq=>true
 | _=>false
def aR(op:Op)(c:TypeId):Oper:={ dst:=none,op:=op,type:=c,pos:= "",after:=#[],guard:=none }
def oT(P:PQ)(s:Sem Next)(v:Value):Prop:=∀(Q:Next->Bool->Hp->Prop) (g:Bool) (H:Hp),Q (.value v) g H->bL P s Q g H
def C1(P:aX)(op:Op)(dst:Option Nat)(next:aM->Hp->Prop)(σ:aM):Next->Hp->Prop
 | .value v,H=>next (σ.set dst v) H
 | .skip,H=>next (σ.set dst undef) H
 | .enter f args,H=>Zc P f args H λv c=>next (σ.set dst v) c
 | .round l f tmps aA g,H=>UX P l f tmps aA g H λv c=>next (σ.set dst v) c
 | .defer d,H=>QH op=true/\LX d=false/\next ({ σ with dQ:=d :: σ.dQ }.set dst undef) H
 | _,_=>False
def C1.mono{op:Op}{dst:Option Nat}{K j:aM->Hp->Prop}{σ:aM}(c:∀σ H,K σ H->j σ H):∀{n:Next} {H:Hp},C1 P op dst K σ n H->C1 P op dst j σ n H:=by
 intro n H h;cases n with
 | value v=>exact c _ _ h
 | skip=>exact c _ _ h
 | enter f args=>exact Zc.mono h λv H g=>c _ _ g
 | round l f tmps aA k=>exact UX.mono h λv H g=>c _ _ g
 | defer d=>exact⟨h.1,h.2.1,c _ _ h.2.2⟩
 | _=>exact h.elim
def bE.w(P:aX)(op:bE)(dst:Option Nat)(next:aM->Hp->Prop)(σ:aM)(H:Hp):Prop:=
 match op with
 | .cY x=>∃v,σ.get x=some v/\next (σ.set dst v) H
 | .pick c a b=>∃t v,σ.get c=some (.bool t)/\σ.get (bif t then a else b)=some v/\next (σ.set dst v) H
 | .aY op x y=>∃k m n v,σ.get x=some (.int k m)/\σ.get y=some (.int k n)/\EG op k m n=some v/\next (σ.set dst v) H
 | .not x=>∃b,σ.get x=some (.bool b)/\next (σ.set dst (.bool !b)) H
 | .ext x i=>∃u v,σ.get x=some (.tuple u)/\u[i]? = some v/\next (σ.set dst v) H
 | .lR off n x=>∃cs,σ.get x=some (.agg cs)/\match n with
  | none=>∃v,cs[off]? = some v/\next (σ.set dst v) H
  | some n=>next (σ.set dst (.agg (cs.extract off (off+n)))) H
 | .aN off x=>∃a,σ.get x=some (.pointer (some a))/\next (σ.set dst (.pointer (some (a.add off)))) H
 | .bQ q x i=>∃(a:Addr) (ln cap:Nat) (k:IntKind) (n:Int),σ.get x=some (.slice (some a) ln cap)/\σ.get i=some (.int k n)/\0<=n/\n<ln/\next (σ.set dst (.pointer (some (a.add (n.toNat * q))))) H
 | .ld n x=>P.still H.gh=false/\∃a o p,σ.get x=some (.pointer (some a))/\a.spot=none/\H a.block=some (o,p)/\match n with
  | none=>∃v,Obj.mB o a.off=some v/\next (σ.set dst v) H
  | some n=>∃cs:List Value,cs.length=n/\(∀j,j<n->Obj.mB o (a.off+j)=cs[j]?)/\next (σ.set dst (.agg cs.toArray)) H
 | .len x=>∃b n c,σ.get x=some (.slice b n c)/\next (σ.set dst (.int .i64 (n:Nat))) H
 | .aQ d B z=>P.still H.gh=false/\next (((σ.drop B).set (some d) (.int .i64 0)).put d z) H
 | .aP d B x=>P.still H.gh=false/\∃v,σ.get x=some v/\next (((σ.drop B).set (some d) (.int .i64 0)).put d v.cells.toList) H
 | .aU off t=>∃n:Nat,σ.env t=some (.int .i64 (n:Int))/\next (σ.set dst (.int .i64 ((n+off:Nat):Int))) H
 | .fC q ln t i=>∃(n:Nat) (k:IntKind) (j:Int),σ.env t=some (.int .i64 (n:Int))/\σ.get i=some (.int k j)/\0<=j/\j<ln/\next (σ.set dst (.int .i64 ((n+j.toNat * q:Nat):Int))) H
 | .dA d n t=>P.still H.gh=false/\∃(off:Nat) (cs:List Value),σ.env t=some (.int .i64 (off:Int))/\σ.box d=some cs/\match n with
  | none=>∃v,cs[off]? = some v/\next (σ.set dst v) H
  | some n=>off+n<=cs.length/\next (σ.set dst (.agg ((cs.drop off).take n).toArray)) H
 | .qU d n t x=>P.still H.gh=false/\∃(off:Nat) (cs:List Value) (v:Value),σ.env t=some (.int .i64 (off:Int))/\σ.box d=some cs/\σ.get x=some v/\v.cells.size=n/\off+n<=cs.length/\(v.cells.toList.all Value.cJ)=true /\
   next (σ.put d (cs.take off++v.cells.toList++cs.drop (off+n))) H
 | .call f args=>∃u,σ.gets args=some u/\Zc P f u.toArray H λv l=>next (σ.set dst v) l
 | .build z A=>∃cs,buildV σ A z=some cs/\next (σ.set dst (.agg cs.toArray)) H
 | .aO e ln z A=>P.still H.gh=false/\∃cs,buildV σ A z=some cs/\∀r,H r=none->next (σ.set dst (.slice (some ⟨r,0,none⟩) ln ln)) (H.ins r (.cells cs.toArray e))
 | .raw op h=>(op.operands.all λx=>(σ.get x).isSome)=true/\(bL P (execOp (λx=>(σ.get x).getD undef) (aR op h)) (λn g l=>g=true\/C1 P op dst next σ n l) false H \/
   Zk P (execOp (λx=>(σ.get x).getD undef) (aR op h)) (Va P (aR op h)) false H λv l=>next (σ.set dst v) l)
 | .jJ op h=>(op.operands.all λx=>(σ.get x).isSome)=true/\Zk P (execOp (λx=>(σ.get x).getD undef) (aR op h)) (Va P (aR op h)) true H λv l=>next (σ.set dst v) l
 | .bU op h=>(op.operands.all λx=>(σ.get x).isSome)=true/\∃v,oT P (execOp (λx=>(σ.get x).getD undef) (aR op h)) v/\next (σ.set dst v) H
end
section
variable{t:TypeId}{d n b:Nat}{v:Value}{dst:Option Nat}{α β:Type}{i:TypeInfo}
def Zh7{G:Prop} (h:G:=by
  induction x with
  | pure a=>rfl
  | halt h=>rfl
  | store m a v k ih=>simp only[Sem.bind,ih]
  | freeze a n k ih=>simp only[Sem.bind,ih]
  | setObj r o k ih=>simp only[Sem.bind,ih]
  | mark m k ih=>simp only[Sem.bind,ih]
  | _=>simp only[Sem.bind];congr 1;funext x;rename_i ih;exact ih x):G:=h
def nl(L:List (Nat×Nat))(x:Operand):Bool:=
 match x with
 | .tmp t=>(L.lookup t).isNone
 | _=>true
def iQ(L:List (Nat×Nat))(m:Nat)(d:Option Nat):Bool:=
 match d with
 | none=>true
 | some d=>(L.lookup d).isNone && d<m
def IV(L:List (Nat×Nat))(m:Nat)(d:Option Nat)(r:Nat):Bool:=
 match d with
 | none=>false
 | some d=>L.lookup d == some r && d<m
def Ou(L:List (Nat×Nat))(d:Nat):List Nat:=(L.filter λp=>p.2 == d).map (·.1)
def Yd(P:Program)(t:TypeId):Option (Option Nat):=
 match P.underlying t,P.info? t with
 | some (.struct _),some i=>some (some i.size)
 | some (.array _ _),some i=>some (some i.size)
 | some _,some _=>some none
 | _,_=>none
def OM(P:Program)(t:TypeId)(f:Nat):Option (Nat×TypeId×Nat):=
 match P.underlying t with
 | some (.struct c)=>match c[f]? with
  | some f=>match P.info? f.type with
   | some i=>some (f.offset,f.type,i.size)
   | none=>none
  | none=>none
 | _=>none
def Av(P:Program)(c:Array Field)(i:Nat):Option (Nat×Nat):=
 match c[i]? with
 | some f=>match P.info? f.type with
  | some i=>some (f.offset,i.size)
  | none=>none
 | none=>none
def UE(place:Nat->Option (Nat×Nat)):List (Nat×Operand)->Option (List (Nat×Nat×Operand))
 | []=>some []
 | (i,x) :: r=>match place i,UE place r with
  | some (off,sz),some c=>some ((off,sz,x) :: c)
  | _,_=>none
def ZlQ(P:Program)(c:Array Field):Bool:=c.all λf=>(P.info? f.type).isSome
def Zub:BinOp->Bool
 | .sub=>true
 | _=>false
def tP(L:List (Nat×Nat)):Bool:=(L.lookup 999999).isSome
def Zue(P:Program):Op->Bool
 | .binOp .. | .slice .. | .nilCheck _=>true
 | .convert s d _=>match P.underlying s,P.underlying d with
  | some (.int _),some (.int _)=>true
  | _,_=>false
 | .call { callee:=.builtin .max,.. } | .call { callee:=.builtin .min,.. }=>true
 | _=>false
def Ox(P:Program)(L:List (Nat×Nat))(op:Op)(c:TypeId):bE:=if Zue P op && !(tP L)then .bU op c else .raw op c
def Ye(P:Program)(L:List (Nat×Nat))(m:Nat)(o:Oper):Option bE:=
 match o.op with
 | .move x=>if nl L x && iQ L m o.dst then some (.cY x)else none
 | .assign x=>if nl L x && iQ L m o.dst then some (.cY x)else none
 | .pick c a b=>if nl L c && nl L a && nl L b && iQ L m o.dst then some (.pick c a b)else none
 | .unOp .not _ x=>if nl L x && iQ L m o.dst then some (.not x)else none
 | .binOp op t x y _=>
  if nl L x && nl L y && iQ L m o.dst then
   match P.underlying t with
   | some (.int _)=>if Zui op && !(tP L && Zub op)then some (.aY op x y)else some (Ox P L o.op o.type)
   | _=>some (Ox P L o.op o.type)
  else none
 | .extract x i=>if nl L x && iQ L m o.dst then some (.ext x i)else none
 | .field t x f=>
  if nl L x && iQ L m o.dst then
   match OM P t f with
   | some (off,ft,_)=>match Yd P ft with
    | some n=>some (.lR off n x)
    | none=>none
   | none=>none
  else none
 | .alloc t=>
  match o.dst with
  | some d=>if L.lookup d == some d then
    match P.info? t with
    | some i=>match i.zero with
     | some z=>if d<m then some (.aQ d (Ou L d) z.cells.toList)else none
     | none=>none
    | none=>none
   else if iQ L m o.dst then some (.raw o.op o.type)else none
  | none=>none
 | .box _ x=>
  match o.dst with
  | some d=>if L.lookup d == some d then(if nl L x && (d<m)then some (.aP d (Ou L d) x)else none)else if nl L x && iQ L m o.dst then some (.raw o.op o.type)else none
  | none=>none
 | .fieldAddr t x f=>
  match OM P t f with
  | some (off,_,sz)=>
   if sz == 0 then none else
   match x with
   | .tmp s=>match L.lookup s with
    | some d=>if IV L m o.dst d && !(o.dst == some d)then some (.aU off s)else none
    | none=>if iQ L m o.dst then some (.aN off x)else none
   | _=>if iQ L m o.dst then some (.aN off x)else none
  | none=>none
 | .indexAddr t x i=>
  if nl L i then
   match P.underlying t,x with
   | some (.array len e),.tmp s=>match L.lookup s,P.info? e with
    | some d,some g=>if IV L m o.dst d && !(o.dst == some d)then some (.fC g.size len s i)else none
    | _,_=>if iQ L m o.dst && nl L x then some (.raw o.op o.type)else none
   | some (.slice e),x=>match P.info? e with
    | some g=>if nl L x && iQ L m o.dst then some (.bQ g.size x i)else none
    | none=>none
   | _,_=>none
  else none
 | .load t x=>
  if tP L then(if nl L x && iQ L m o.dst then some (.jJ o.op o.type)else none)else
  if iQ L m o.dst then
   match Yd P t with
   | some n=>match x with
    | .tmp s=>match L.lookup s with
     | some d=>some (.dA d n s)
     | none=>some (.ld n x)
    | _=>some (.ld n x)
   | none=>none
  else none
 | .store t x v=>
  if nl L v && o.dst.isNone then
   match P.info? t with
   | some i=>match x with
    | .tmp s=>match L.lookup s with
     | some d=>some (.qU d i.size s v)
     | none=>some (.raw o.op o.type)
    | _=>some (.raw o.op o.type)
   | none=>none
  else none
 | .call { callee:=.builtin .len,args:=args,argTypes:=ts }=>
  match args.toList,ts.toList with
  | [x],[t]=>if nl L x && iQ L m o.dst then
    match P.underlying t with
    | some (.slice _)=>some (.len x)
    | _=>some (.raw o.op o.type)
   else none
  | _,_=>none
 | .call { callee:=.value (.func f),args:=args,argTypes:=_ }=>
  if(args.all (nl L)) && iQ L m o.dst then
   match P.funcs[f]? with
   | some fn=>if fn.body.isSome && !(fn.name == "runtime.NumGoroutine")then some (.call f args.toList)else some (.raw o.op o.type)
   | none=>none
  else none
 | .build t h=>
  if(h.all λp=>nl L p.2) && iQ L m o.dst then
   match P.underlying t,P.info? t with
   | some (.struct l),some i=>match i.zero,UE (Av P l) h.toList with
    | some z,some j=>if ZlQ P l then some (.build z.cells.toList j)else none
    | _,_=>none
   | some (.array _ e),some i=>match i.zero,P.info? e with
    | some z,some g=>match UE (λk=>some (k * g.size,g.size)) h.toList with
     | some j=>some (.build z.cells.toList j)
     | none=>none
    | _,_=>none
   | _,_=>none
  else none
 | .buildSlice t len h=>
  if(h.all λp=>nl L p.2) && iQ L m o.dst then
   match P.underlying t with
   | some (.slice e)=>match P.info? e with
    | some g=>match g.zero,UE (λk=>some (k * g.size,g.size)) h.toList with
     | some z,some j=>if len * g.size<=2 ^ 24 && !(len * g.size == 0)then some (.aO e len ((Array.range (len * g.size)).map (z.cells[· % z.cells.size]!)).toList j)else some (.raw o.op o.type)
     | _,_=>none
    | none=>none
   | _=>none
  else none
 | .select _ _=>none
 | _=>if(o.op.operands.all (nl L)) && iQ L m o.dst then some (Ox P L o.op o.type)else none
def Uh{t:Nat}(h:¬t=d):Nat.beq t d=false:=by
 cases hb:Nat.beq t d with
 | false=>rfl
 | true=>exact absurd (qBN hb) h
def VW(L:List (Nat×Nat))(ρ:Nat->Nat)(t:Nat)(v c:Value):Prop:=
 match L.lookup t with
 | none=>c=v
 | some d=>v=undef\/∃off:Nat,v=.int .i64 off/\c=.pointer (some ⟨ρ d,off,none⟩)
structure eN(P:PQ)(L:List (Nat×Nat))(m:Nat)(σ:aM)(H:Hp)(a:Act)(Ha:Hp):Prop where
 size:a.tmps.size=m
 defers:Oy a.defers=σ.dQ
 mem:∃(ρ:Nat->Nat) (K:Hp),Ha=H.join K/\H.Comp K/\(∀d cs,σ.box d=some cs->∃t,K (ρ d)=some (.cells cs.toArray t (0,0),true)) /\
  (∀d d' cs jX,σ.box d=some cs->σ.box d'=some jX->ρ d=ρ d'->d=d')/\(∀t v,σ.env t=some v->VW L ρ t v (a.tmps.getD t undef))/\UZ P K a.defers
def eN.get{P:PQ}{L:List (Nat×Nat)}{m:Nat}{σ:aM}{H:Hp}{a:Act}{Ha:Hp}(r:eN P L m σ H a Ha){x:Operand}(g:nl L x=true)(h:σ.get x=some v):a.eval x=v:=by
 obtain⟨ρ,K,_,_,_,_,j,_⟩:=r.mem;cases x with
 | tmp t=>
  have:=j t v h;unfold VW at this;simp only[nl,qDF]at g;rw[g]at this;exact this
 | const c=>simp only[aM.get,qAe]at h;exact h
 | func f=>simp only[aM.get,qAe]at h;exact h
 | _=>simp only[aM.get,qAe]at h;exact h
def Ka(a:Act)(d t:Nat)(v:Value)(c:d<a.tmps.size):(put a (some d) v).tmps.getD t undef=if t=d then v else a.tmps.getD t undef:=by
 simp only[put,qCe,qCL];by_cases h:d=t
 ·subst h;simp[c]
 simp[h,qAF h]
def eN.set{P:PQ}{L:List (Nat×Nat)}{m:Nat}{σ:aM}{H:Hp}{a:Act}{Ha:Hp}(r:eN P L m σ H a Ha)(hd:iQ L m dst=true)(v:Value):eN P L m (σ.set dst v) H (put a dst v) Ha:=by
 cases dst with
 | none=>exact r
 | some d=>
  obtain⟨ρ,K,g,j,k,l,p,q⟩:=r.mem;simp only[iQ,qAc,qDF,qAR]at hd;refine⟨by simp[put,r.size],r.defers,ρ,K,g,j,k,l,?_,q⟩;intro t u c;rw[Ka _ _ _ _ (by rw[r.size];exact hd.2)];simp only[aM.set]at c;by_cases h:t=d
  ·subst h;simp at c;unfold VW;rw[hd.1,iF rfl,c]
  have:Nat.beq t d=false:=Uh h;rw[this]at c;rw[aT h];exact p t u c
def eN.fB{P:PQ}{L:List (Nat×Nat)}{m:Nat}{σ:aM}{H:Hp}{a:Act}{Ha:Hp}(r:eN P L m σ H a Ha)(dst:Option Nat):eN P L m (σ.fB dst) H (put a dst undef) Ha:=by
 cases dst with
 | none=>exact r
 | some d=>
  obtain⟨ρ,K,j,k,l,p,q,w⟩:=r.mem;refine⟨by simp[put,r.size],r.defers,ρ,K,j,k,l,p,?_,w⟩;intro t u c;simp only[aM.fB]at c;by_cases h:t=d
  ·subst h;simp at c;subst c;unfold VW;split
   ·simp only[put,qCe,qCL];by_cases g:t<a.tmps.size<;>simp[g]
   exact .inl rfl
  have hb:Nat.beq t d=false:=Uh h;rw[hb]at c;have z:=q t u c;have:(put a (some d) undef).tmps.getD t undef=a.tmps.getD t undef:=by simp only[put,qCe,qCL,aT (qAF h)]
  rw[this];exact z
def eN.MI{P:PQ}{L:List (Nat×Nat)}{m:Nat}{σ:aM}{H:Hp}{a:Act}{Ha:Hp}(r:eN P L m σ H a Ha)(hd:IV L m dst d=true){s:Nat}(E:L.lookup s=some d)(D:σ.env s=some (.int .i64 (n:Nat)))(j:Nat) :
  ∃b,a.tmps.getD s undef=.pointer (some ⟨b,n,none⟩)/\eN P L m (σ.set dst (.int .i64 (j:Nat))) H (put a dst (.pointer (some ⟨b,j,none⟩))) Ha:=by
 obtain⟨ρ,K,p,q,z,A,k,B⟩:=r.mem;have g:=k s _ D;unfold VW at g;rw[E]at g;obtain⟨off,l,C⟩:=g.resolve_left (by simp[undef]);simp only[Value.int.injEq,true_and,Int.ofNat_inj]at l;subst l;refine⟨ρ d,C,?_⟩;cases dst with
 | none=>simp[IV]at hd
 | some t=>
  simp only[IV,qAc,qDH,qAR]at hd;refine⟨by simp[put,r.size],r.defers,ρ,K,p,q,z,A,?_,B⟩;intro u w c;rw[Ka _ _ _ _ (by rw[r.size];exact hd.2)];simp only[aM.set]at c;by_cases h:u=t
  ·subst h;simp at c;unfold VW;rw[hd.1,iF rfl];exact .inr ⟨j,c.symm,rfl⟩
  have:Nat.beq u t=false:=Uh h;rw[this]at c;rw[aT h];exact k u w c
def ZoT(x:Sem α):x.bind Sem.pure=x:=by exact Zh7
def ZoU{γ:Type}(x:Sem α)(f:α->Sem β)(k:β->Sem γ):(x.bind f).bind k=x.bind λa=>(f a).bind k:=by exact Zh7
instance:LawfulMonad Sem:=LawfulMonad.mk' Sem (id_map:=λx=>ZoT x) (pure_bind:=λ_ _=>rfl) (bind_assoc:=λx f k=>ZoU x f k)
def Zg{P:PQ}{s:Sem α}{f:α->Sem β}{Q:β->Bool->Hp->Prop}:∀{g:Bool} {H:Hp},bL P (s >>= f) Q g H↔bL P s (λa g H=>bL P (f a) Q g H) g H:=by
 show ∀{g:Bool} {H:Hp},bL P (s.bind f) Q g H↔_;induction s with
 | pure a=>exact qCH
 | load m a k ih=>simp only[bL,Sem.bind,ih];exact trivial
 | store m a v k ih=>simp only[bL,Sem.bind,ih,qCu]
 | new o k ih=>simp only[bL,Sem.bind,ih,qCu]
 | shape r k ih=>simp only[bL,Sem.bind,ih,qCu]
 | freeze a n k ih=>simp only[bL,Sem.bind,ih,qCu]
 | frozen a k ih=>simp only[bL,Sem.bind,ih,qCu]
 | getObj r k ih=>simp only[bL,Sem.bind,ih,qCu]
 | setObj r o k ih=>simp only[bL,Sem.bind,ih,qCu]
 | choose q k ih=>simp only[bL,Sem.bind,ih,qCu]
 | sys c k ih=>exact qCH
 | program k ih=>simp only[bL,Sem.bind,ih,qCu]
 | mark m k ih=>simp only[bL,Sem.bind,ih,qCu]
 | halt h=>exact qCH
def Zj{P:PQ}(a:α)(Q:α->Bool->Hp->Prop)(g:Bool)(H:Hp):bL P (pure a:Sem α) Q g H↔Q a g H:=qCH
def V0{P:PQ}(Q:Program->Bool->Hp->Prop)(g:Bool)(H:Hp):bL P program Q g H↔Q P g H:=qCH
def Zw{P:PQ}{d:TypeDesc}(h:P.underlying t=some d)(Q:TypeDesc->Bool->Hp->Prop)(g:Bool)(H:Hp):bL P (underlying t) Q g H↔Q d g H:=by simp only[underlying,Zg,V0,h,Zj]
def O1{P:PQ}(h:P.info? t=some i)(Q:TypeInfo->Bool->Hp->Prop)(g:Bool)(H:Hp):bL P (typeInfo t) Q g H↔Q i g H:=by simp only[typeInfo,Zg,V0,h,Zj]
def Z4{P:PQ}(h:P.info? t=some i)(Q:Nat->Bool->Hp->Prop)(g:Bool)(H:Hp):bL P (sizeOf t) Q g H↔Q i.size g H:=by simp only[sizeOf,Zg,O1 h,Zj]
def UC{P:PQ}{z:Value}(h:P.info? t=some i)(c:i.zero=some z)(Q:Value->Bool->Hp->Prop)(g:Bool)(H:Hp):bL P (zeroValue t) Q g H↔Q z g H:=by simp only[zeroValue,Zg,O1 h,c,Zj]
def K7{P:PQ}(h:Yd P t=some (some n)):∃i,P.info? t=some i/\i.size=n/\∀(Q:Bool->Bool->Hp->Prop) g H,bL P (isAgg t) Q g H↔Q true g H:=by
 unfold Yd at h;split at h<;>simp only[qAe,reduceCtorEq]at h
 ·rename_i k i c j;exact⟨i,j,h,λQ g H=>by simp only[isAgg,Zg,Zw c,Zj]⟩
 rename_i k e i c j;exact⟨i,j,h,λQ g H=>by simp only[isAgg,Zg,Zw c,Zj]⟩
def OS{P:PQ}(h:Yd P t=some none):∀(Q:Bool->Bool->Hp->Prop) g H,bL P (isAgg t) Q g H↔Q false g H:=by
 unfold Yd at h;split at h<;>simp only[qAe,reduceCtorEq]at h;rename_i d i k j c p;intro Q g H;simp only[isAgg,Zg,Zw c];cases d with
 | struct l=>exact(k _ rfl).elim
 | array n e=>exact(j _ _ rfl).elim
 | _=>simp only[Zj]
def LY{P:PQ}{o:Obj}{p:Bool}{a:Addr}{H:Hp}(q:P.still H.gh=false)(A:H a.block=some (o,p))(C:a.spot=none)(Q:Array Value->Bool->Hp->Prop)(g:Bool) :
  ∀(l:List Value) (i:Nat) (k:Array Value),(∀j,j<l.length->Obj.mB o (a.off+(i+j))=l[j]?)->Q (k++l.toArray) g H->bL P (loadCellsFrom a i l.length k) Q g H
 | [],i,k,_,h=>by simpa[loadCellsFrom,Zj]using h
 | c :: l,i,k,z,h=>by
  have B:=z 0 (by simp);simp only[qAs,loadCellsFrom,Zg];have hb:(a.add i).block=a.block:=by unfold Addr.add;split<;>rfl
  have u:(a.add i).off=a.off+i:=by unfold Addr.add;split<;>simp_all
  have w:(a.add i).spot=none:=by unfold Addr.add;split<;>simp_all
  refine⟨o,p,c,⟨q,by rw[hb];exact A⟩,rfl,w,by rw[u];simpa using B,?_⟩;refine LY q A C Q g l (i+1) (k.push c) (λj D=>?_) (by simpa using h);have:=z (j+1) (by simp;omega);simp only[qAT]at this;rw[<-this];congr 1;omega
section sound
variable{P:aX}{nr:Bool}{L:List (Nat×Nat)}{m:Nat}{o:Oper}{next:aM->Hp->Prop}{σ:aM}{H Ha:Hp}{a:Act}
abbrev Nx(P:PQ)(L:List (Nat×Nat))(m:Nat)(next:aM->Hp->Prop)(h:Act)(c:Hp):Prop:=∃σ' g,eN P L m σ' g h c/\next σ' g
def QU{N:Act->Hp->Prop}(h:execOp a.eval o=pure (.value v))(c:N (put a o.dst v) Ha):lO P nr o a N Ha:=by refine .inl ?_;rw[h];exact .inr c
def VP{N:Act->Hp->Prop}{s:Sem Value}(h:execOp a.eval o=(do pure (.value (<-s))))(j:bL P s (λv g c=>g=true\/N (put a o.dst v) c) false Ha):lO P nr o a N Ha:=by refine .inl ?_;rw[h,Zg];exact Vi (λv g c k=>k) j
def eN.heap{P:PQ}{L:List (Nat×Nat)}{m:Nat}{σ:aM}{H:Hp}{a:Act}{Ha:Hp}(r:eN P L m σ H a Ha){x:Obj×Bool}(h:H b=some x):Ha b=some x:=by obtain⟨ρ,K,c,_⟩:=r.mem;rw[c];exact Hp.aW h
def eN.aV{P:PQ}{L:List (Nat×Nat)}{m:Nat}{σ:aM}{H:Hp}{a:Act}{Ha:Hp}(r:eN P L m σ H a Ha)(h:P.still H.gh=false):P.still Ha.gh=false:=by obtain⟨ρ,K,c,g,_⟩:=r.mem;rw[c];exact Ub g h
theorem WF{a:Addr}(c:a.spot=none)(n:Nat):a.add n=⟨a.block,a.off+n,none⟩:=by
 unfold Addr.add;split
 ·obtain⟨b,o,s⟩:=a;simp_all
 rfl
def eN.MS{P:PQ}{L:List (Nat×Nat)}{m:Nat}{σ:aM}{H:Hp}{a:Act}{Ha:Hp}(r:eN P L m σ H a Ha)(V:L.lookup d=some d)(hd:d<m)(hb:Ha b=none)(cs:List Value)(t:TypeId) :
  eN P L m (((σ.drop (Ou L d)).set (some d) (.int .i64 0)).put d cs) H (put a (some d) (.pointer (some ⟨b,0,none⟩))) (Ha.ins b (.cells cs.toArray t)):=by
 obtain⟨ρ,K,N,R,O,S,T,U⟩:=r.mem;rw[N]at hb;obtain⟨D,E⟩:=Hp.eF.1 hb;have M:∀t,L.lookup t=some d->(Ou L d).elem t=true:=by
  intro t X;have:(t,d)∈L:=by have:=qDL.1 X;obtain⟨Y,Z,rfl,_⟩:=this;simp
  simp only[Ou,List.elem_eq_mem,qAR,qAB,qAC,qDH];exact⟨(t,d),⟨this,rfl⟩,rfl⟩
 have q:∀j g,j≠d->σ.box j=some g->ρ j≠b:=by intro j g _ p W;obtain⟨Q,c⟩:=O j g p;rw[W,E]at c;simp at c
 refine⟨by simp[put,r.size],r.defers,λx=>if x=d then b else ρ x,K.ins b (.cells cs.toArray t),?_,?_,?_,?_,?_,?_⟩
 ·rw[N];refine Hp.ext' (λx=>?_) rfl;simp only[Hp.bH,Hp.eM];by_cases z:x=b
  ·subst z;simp[D]
  simp[z]
 ·exact((R.symm).hY _ D).symm
 ·intro j g p;simp only[aM.put]at p;by_cases z:j=d
  ·subst z;simp at p;subst p;exact⟨t,by simp[Hp.eM]⟩
  rw[Uh z]at p;have c:σ.box j=some g:=by simpa[aM.set,aM.drop]using p
  obtain⟨Q,l⟩:=O j g c;exact⟨Q,by simp only[aT z];rw[Hp.aH _ _ (q j g z c)];exact l⟩
 ·intro F G c1 c2 C c l;simp only[aM.put]at C c;by_cases A:F=d<;>by_cases B:G=d
  ·rw[A,B]
  ·rw[Uh B]at c;have J:σ.box G=some c2:=by simpa[aM.set,aM.drop]using c
   simp only[iF A,aT B]at l;exact absurd l.symm (q G c2 B J)
  ·rw[Uh A]at C;have I:σ.box F=some c1:=by simpa[aM.set,aM.drop]using C
   simp only[aT A,iF B]at l;exact absurd l (q F c1 A I)
  rw[Uh A]at C;rw[Uh B]at c;simp only[aT A,aT B]at l;exact S F G c1 c2 (by simpa[aM.set,aM.drop]using C) (by simpa[aM.set,aM.drop]using c) l
 ·intro u w k;rw[Ka _ _ _ _ (by rw[r.size];exact hd)];simp only[aM.put,aM.set,aM.drop]at k;by_cases h:u=d
  ·subst h;simp at k;unfold VW;rw[V];exact .inr ⟨0,by simpa using k.symm,by simp⟩
  rw[Uh h]at k;simp only[cond_false]at k;rw[aT h];cases he:(Ou L d).elem u with
  | true=>rw[he]at k;simp at k
  | false=>
   rw[he]at k;have c:=T u w k;unfold VW at c ⊢;cases hl:L.lookup u with
   | none=>rw[hl]at c;exact c
   | some j=>
    rw[hl]at c;have:j≠d:=by rintro rfl;rw[M u hl]at he;simp at he
    simpa[this]using c
 exact U.ins λo' h=>by rw[E]at h;simp at h
end sound
end
section
variable{x y:Operand}{t e ft:TypeId}{i:TypeInfo}{f off sz s d:Nat}{n:Option Nat}
section sound
variable{P:aX}{nr:Bool}{L:List (Nat×Nat)}{m:Nat}{o:Oper}{next:aM->Hp->Prop}{σ:aM}{H Ha:Hp}{a:Act}{op:bE}
def Zhl(c:o.op=.move x\/o.op=.assign x)(l:nl L x=true)(k:iQ L m o.dst=true)(h:(bE.cY x).w P o.dst next σ H)(r:eN P L m σ H a Ha):lO P nr o a (Nx P L m next) Ha:=by obtain⟨v,g,j⟩:=h;refine QU (v:=v) ?_ ⟨_,_,r.set k v,j⟩;rcases c with c | c<;>simp[execOp,c,r.get l g]
def Zo2{c:Operand}(j:o.op=.pick c x y)(p:nl L c=true)(u:nl L x=true)(z:nl L y=true)(q:iQ L m o.dst=true)(h:(bE.pick c x y).w P o.dst next σ H)(r:eN P L m σ H a Ha):lO P nr o a (Nx P L m next) Ha:=by
 obtain⟨t,v,k,g,l⟩:=h;refine QU (v:=v) ?_ ⟨_,_,r.set q v,l⟩;have e:=r.get p k;cases t with
 | true=>simp[execOp,j,e,asBool,r.get u g]
 | false=>simp[execOp,j,e,asBool,r.get z g]
def Zo3(k:o.op=.unOp .not t x)(l:nl L x=true)(j:iQ L m o.dst=true)(h:(bE.not x).w P o.dst next σ H)(r:eN P L m σ H a Ha):lO P nr o a (Nx P L m next) Ha:=by obtain⟨b,c,g⟩:=h;refine QU (v:=.bool !b) ?_ ⟨_,_,r.set j _,g⟩;simp[execOp,k,r.get l c,Op.unary]
def Zpi{b:BinOp}{E:TypeId}(B:o.op=.binOp b t x y E)(C:nl L x=true)(D:nl L y=true)(A:iQ L m o.dst=true)(h:(bE.aY b x y).w P o.dst next σ H)(r:eN P L m σ H a Ha):lO P nr o a (Nx P L m next) Ha:=by obtain⟨k,p,q,v,l,u,c,z⟩:=h;refine QU (v:=v) ?_ ⟨_,_,r.set A v,z⟩;have g:=r.get C l;have j:=r.get D u;cases b<;>simp[EG]at c<;>subst c<;>simp[execOp,B,g,j,eqGuard,binOp,Op.intArith,Op.intCmp]
def Zpd{i:Nat}(l:o.op=.extract x i)(p:nl L x=true)(k:iQ L m o.dst=true)(h:(bE.ext x i).w P o.dst next σ H)(r:eN P L m σ H a Ha):lO P nr o a (Nx P L m next) Ha:=by obtain⟨q,v,c,g,j⟩:=h;refine QU (v:=v) ?_ ⟨_,_,r.set k v,j⟩;simp[execOp,l,r.get p c,Instr.extract,g]
def Zo9{k:Array TypeId}{aA:Array Operand}(z:o.op=.call { callee:=.builtin .len,args:=aA,argTypes:=k })(g:aA.toList=[x])(j:k.toList=[t])(A:P.underlying t=some (.slice e))(B:nl L x=true)(u:iQ L m o.dst=true)
  (h:(bE.len x).w P o.dst next σ H) (r:eN P L m σ H a Ha):lO P nr o a (Nx P L m next) Ha:=by
 obtain⟨b,n,c,p,q⟩:=h;have l:=r.get B p;obtain⟨aA⟩:=aA;obtain⟨k⟩:=k;simp only at g j;subst g j;refine VP (s:=Builtin.len_ #[t] o.type #[.slice b n c]) (by simp[execOp,z,resolve,invoke,builtin,l]) ?_;show bL P (underlying t >>= _) _ _ _;rw[Zg,Zw A];exact .inr ⟨_,_,r.set u _,q⟩
def Wx(c:OM P t f=some (off,ft,sz)):∃g lR i,P.underlying t=some (.struct g)/\g[f]? = some lR/\P.info? lR.type=some i/\lR.offset=off/\lR.type=ft/\i.size=sz:=by
 unfold OM at c;cases hu:P.underlying t with
 | none=>rw[hu]at c;simp at c
 | some d=>
  rw[hu]at c;cases d with
  | struct g=>
   simp only at c;cases hfld:g[f]? with
   | none=>rw[hfld]at c;simp at c
   | some lR=>
    rw[hfld]at c;simp only at c;cases hi:P.info? lR.type with
    | none=>rw[hi]at c;simp at c
    | some i=>
     rw[hi]at c;simp only[qAe,qBD]at c;exact⟨g,lR,i,rfl,hfld,hi,c.1,c.2.1,c.2.2⟩
  | _=>simp at c
def Zpc(B:o.op=.field t x f)(A:OM P t f=some (off,ft,sz))(l:Yd P ft=some n)(F:nl L x=true)(k:iQ L m o.dst=true)(h:(bE.lR off n x).w P o.dst next σ H)(r:eN P L m σ H a Ha):lO P nr o a (Nx P L m next) Ha:=by
 obtain⟨p,q,j⟩:=h;refine VP (s:=Instr.field t (.agg p) f) (by simp[execOp,B,r.get F q]) ?_;obtain⟨G,lR,i,E,c,I,rfl,rfl,rfl⟩:=Wx A;unfold Instr.field;rw[Zg,Zw E];simp only[c,asAgg,Zg,Zj,part];cases n with
 | none=>
  obtain⟨v,u,z⟩:=j;rw[OS l];simp only[DO,qAw,u,Zj];exact .inr ⟨_,_,r.set k _,z⟩
 | some n=>
  obtain⟨J,g,D,C⟩:=K7 l;rw[C];simp only[qBp,Zg,Z4 g,Zj,D];exact .inr ⟨_,_,r.set k _,j⟩
def Ww{b:Addr}(h:OM P t f=some (off,ft,sz))(l:sz≠0)(Q:Value->Bool->Hp->Prop)(g:Bool)(H:Hp):bL P (Instr.fieldAt t (.pointer (some b)) f) Q g H↔Q (.pointer (some (b.add off))) g H:=by obtain⟨p,lR,i,k,c,j,rfl,rfl,rfl⟩:=Wx h;unfold Instr.fieldAt;rw[Zg,Zw k];simp only[c,Instr.sureAddr,Zg,Zj,fieldPlace,Z4 j,l,qAw]
def Zhn(l:o.op=.fieldAddr t x f)(k:OM P t f=some (off,ft,sz))(q:sz≠0)(p:nl L x=true)(j:iQ L m o.dst=true)(h:(bE.aN off x).w P o.dst next σ H)(r:eN P L m σ H a Ha):lO P nr o a (Nx P L m next) Ha:=by obtain⟨b,c,g⟩:=h;refine VP (s:=Instr.fieldAt t (.pointer (some b)) f) (by simp[execOp,l,r.get p c]) ?_;rw[Ww k q];exact .inr ⟨_,_,r.set j _,g⟩
def Zo8(q:o.op=.fieldAddr t (.tmp s) f)(p:OM P t f=some (off,ft,sz))(z:sz≠0)(u:L.lookup s=some d)(l:IV L m o.dst d=true)(h:(bE.aU off s).w P o.dst next σ H)(r:eN P L m σ H a Ha):lO P nr o a (Nx P L m next) Ha:=by obtain⟨n,c,g⟩:=h;obtain⟨b,j,k⟩:=r.MI l u c (n+off);refine VP (s:=Instr.fieldAt t (.pointer (some ⟨b,n,none⟩)) f) (by simp only[execOp,q,Act.eval,j]) ?_;rw[Ww p z,WF rfl];exact .inr ⟨_,_,k,g⟩
def Zpb(z:o.op=.indexAddr t x y)(A:P.underlying t=some (.slice e))(u:P.info? e=some i)(B:nl L x=true)(C:nl L y=true)(q:iQ L m o.dst=true)(h:(bE.bQ i.size x y).w P o.dst next σ H)(r:eN P L m σ H a Ha):lO P nr o a (Nx P L m next) Ha:=by obtain⟨b,ln,cap,k,n,c,g,j,l,p⟩:=h;refine VP (s:=Instr.indexAt t (.slice (some b) ln cap) (.int k n)) (by simp[execOp,z,r.get B c,r.get C g]) ?_;unfold Instr.indexAt;simp only[asIntOf,Zg,Zj,Zw A];simp only[j,l,and_self,qBp,Zg,Z4 u,Zj];exact .inr ⟨_,_,r.set q _,p⟩
def Zo7{len:Nat}(C:o.op=.indexAddr t (.tmp s) y)(E:P.underlying t=some (.array len e))(B:P.info? e=some i)(D:L.lookup s=some d)(F:nl L y=true)(A:IV L m o.dst d=true)(h:(bE.fC i.size len s y).w P o.dst next σ H)(r:eN P L m σ H a Ha):lO P nr o a (Nx P L m next) Ha:=by obtain⟨n,k,j,c,g,l,p,q⟩:=h;obtain⟨b,u,z⟩:=r.MI A D c (n+j.toNat * i.size);refine VP (s:=Instr.indexAt t (.pointer (some ⟨b,n,none⟩)) (.int k j)) (by have:=r.get F g;simp only[execOp,C,this];simp only[Act.eval,u]) ?_;unfold Instr.indexAt;simp only[asIntOf,Zg,Zj,Zw E,Instr.sureAddr];simp only[l,p,and_self,qBp,Zg,Z4 B,Zj,WF];exact .inr ⟨_,_,z,q⟩
def Zhm(F:o.op=.load t x)(B:Yd P t=some n)(J:nl L x=true)(A:iQ L m o.dst=true)(h:(bE.ld n x).w P o.dst next σ H)(r:eN P L m σ H a Ha):lO P nr o a (Nx P L m next) Ha:=by
 obtain⟨c,b,K,p,D,q,u,z⟩:=h;refine VP (s:=Instr.loadAt t (.pointer (some b))) (by simp[execOp,F,r.get J D]) ?_;simp only[Instr.loadAt,Instr.sureAddr,Zg,Zj,loadVar];cases n with
 | none=>
  obtain⟨v,g,k⟩:=z;rw[OS B];simp only[DO,qAw];exact⟨K,p,v,⟨r.aV c,r.heap u⟩,rfl,q,g,.inr ⟨_,_,r.set A _,k⟩⟩
 | some n=>
  obtain⟨C,rfl,g,k⟩:=z;obtain⟨M,l,I,G⟩:=K7 B;rw[G];simp only[qBp,Zg,Z4 l,Zj,I,loadCells];refine LY (r.aV c) (r.heap u) q _ _ C 0 #[] (λj E=>by rw[qAE];exact g j E) ?_;exact .inr ⟨_,_,by simpa using r.set A _,k⟩
end sound
end
variable{t:TypeId}{d s:Nat}{i:TypeInfo}{x:Operand}
section sound
variable{P:aX}{nr:Bool}{L:List (Nat×Nat)}{m:Nat}{o:Oper}{next:aM->Hp->Prop}{σ:aM}{H Ha:Hp}{a:Act}{op:bE}
def Zo4{z:Value}(l:o.op=.alloc t)(g:o.dst=some d)(c:L.lookup d=some d)(k:d<m)(j:P.info? t=some i)(q:i.zero=some z)
  (h:(bE.aQ d (Ou L d) z.cells.toList).w P o.dst next σ H) (r:eN P L m σ H a Ha):lO P nr o a (Nx P L m next) Ha:=by
 obtain⟨p,h⟩:=h;refine VP (s:=Instr.alloc t true (.tuple #[])) (by simp[execOp,l]) ?_;simp only[Instr.alloc,Zg,UC j q];simp only[newVar,newRow,Zg,newObj];refine⟨r.aV p,λb hb=>?_⟩;rw[g];refine .inr ⟨_,_,?_,h⟩;have:=r.MS c k hb z.cells.toList t;simpa using this
def Zpa(p:o.op=.box t x)(k:o.dst=some d)(j:L.lookup d=some d)(l:d<m)(u:nl L x=true)
  (h:(bE.aP d (Ou L d) x).w P o.dst next σ H) (r:eN P L m σ H a Ha):lO P nr o a (Nx P L m next) Ha:=by
 obtain⟨q,v,c,g⟩:=h;refine VP (s:=Instr.box t v) (by simp[execOp,p,r.get u c]) ?_;simp only[Instr.box,Zg,newVar,newRow,newObj];refine⟨r.aV q,λb hb=>?_⟩;rw[k];refine .inr ⟨_,_,?_,g⟩;have:=r.MS j l hb v.cells.toList t;simpa using this
def eN.place{P:PQ}{L:List (Nat×Nat)}{m:Nat}{σ:aM}{H:Hp}{a:Act}{Ha:Hp}(r:eN P L m σ H a Ha){n:Nat}{cs:List Value}(u:L.lookup s=some d)(q:σ.env s=some (.int .i64 (n:Nat)))(hb:σ.box d=some cs) :
  ∃b t,a.tmps.getD s undef=.pointer (some ⟨b,n,none⟩)/\Ha b=some (.cells cs.toArray t (0,0),true):=by
 obtain⟨ρ,K,h,j,k,z,l,A⟩:=r.mem;have c:=l s _ q;unfold VW at c;rw[u]at c;obtain⟨off,g,p⟩:=c.resolve_left (by simp[undef]);simp only[Value.int.injEq,true_and,Int.ofNat_inj]at g;subst g;obtain⟨t,w⟩:=k d cs hb;exact⟨ρ d,t,p,by rw[h];exact Hp.bC j w⟩
def Zo6{n:Option Nat}(K:o.op=.load t (.tmp s))(F:Yd P t=some n)(N:L.lookup s=some d)(D:iQ L m o.dst=true)(h:(bE.dA d n s).w P o.dst next σ H)(r:eN P L m σ H a Ha):lO P nr o a (Nx P L m next) Ha:=by
 obtain⟨l,off,A,I,J,B⟩:=h;obtain⟨b,Q,q,k⟩:=r.place N I J;refine VP (s:=Instr.loadAt t (.pointer (some ⟨b,off,none⟩))) (by simp only[execOp,K,Act.eval,q]) ?_;simp only[Instr.loadAt,Instr.sureAddr,Zg,Zj,loadVar];cases n with
 | none=>
  obtain⟨v,C,p⟩:=B;rw[OS F];simp only[DO,qAw];exact⟨_,_,v,⟨r.aV l,k⟩,rfl,rfl,by simpa[Obj.mB]using C,.inr ⟨_,_,r.set D _,p⟩⟩
 | some n=>
  obtain⟨C,p⟩:=B;obtain⟨O,u,z,M⟩:=K7 F;rw[M];simp only[qBp,Zg,Z4 u,Zj,z,loadCells];have c:((A.drop off).take n).length=n:=by simp;omega
  have:=LY (P:=P) (a:=⟨b,off,none⟩) (r.aV l) k rfl (λv g G=>g=true\/Nx P L m next (put a o.dst (.agg v)) G) false ((A.drop off).take n) 0 #[] (λj E=>by simp only[Obj.mB,qAE,qAH];rw[qDa,qCJ,iF (by rw[c]at E;exact E)]) (.inr ⟨_,_,by simpa using r.set D _,p⟩);rw[c]at this;exact this
def LO{P:PQ}{b:Nat}{t:TypeId}(Q:Unit->Bool->Hp->Prop)(g:Bool):∀(j:List Value) (off i:Nat) (c:List Value) (H:Hp),P.still H.gh=false->H b=some (.cells c.toArray t (0,0),true)->(j.all Value.cJ)=true->off+i+j.length<=c.length ->
  Q () g (H.ins b (.cells (c.take (off+i)++j++c.drop (off+i+j.length)).toArray t (0,0)))->bL P (storeCells ⟨b,off,none⟩ j i) Q g H
 | [],off,i,c,H,_,hb,_,_,h=>by
  have:H.ins b (.cells (c.take (off+i)++[]++c.drop (off+i+([]:List Value).length)).toArray t (0,0))=H:=by
   refine Hp.ext' (λx=>?_) rfl;by_cases p:x=b
   ·subst p;simp[Hp.eM,hb]
   rw[Hp.aH _ _ p]
  rw[this]at h;exact h
 | v :: j,off,i,c,H,l,hb,q,A,h=>by
  simp only[List.all_cons,qAc]at q;simp only[qAs]at A;simp only[storeCells,Zg,store];have z:(⟨b,off,none⟩:Addr).add i=⟨b,off+i,none⟩:=by rw[WF rfl]
  rw[z];have u:off+i<c.length:=O;refine⟨_,⟨l,hb⟩,rfl,rfl,q.1,?_,by simp[Obj.kC],?_⟩
  ·simp[Obj.mB,u]
  have e:Obj.put (.cells c.toArray t (0,0)) (off+i) v=.cells (c.set (off+i) v).toArray t (0,0):=by simp[Obj.put]
  rw[e];refine LO Q g j off (i+1) (c.set (off+i) v) _ l (Hp.aG _ _ _) q.2 (by simp;omega) ?_;have w:(H.ins b (.cells (c.set (off+i) v).toArray t (0,0))).ins b (.cells ((c.set (off+i) v).take (off+(i+1))++j++(c.set (off+i) v).drop (off+(i+1)+j.length)).toArray t (0,0))=H.ins b (.cells (c.take (off+i)++(v :: j)++c.drop (off+i+(v :: j).length)).toArray t (0,0)):=by
   refine Hp.ext' (λx=>?_) rfl;by_cases p:x=b
   ·subst p;simp only[Hp.aG,qAe,qBD,qDY,Obj.cells.injEq];refine qBc List.toArray ?_;rw[List.drop_set_of_lt O];have:(c.set (off+i) v).take (off+(i+1))=c.take (off+i)++[v]:=by rw[<-qDw,iN (by simp;omega)];rw[qDX O];simp
    rw[this];simp only[qAW,List.singleton_append,qAs];congr 3;omega
   simp only[Hp.aH _ _ p]
  rw[w];exact h
def Zo5(ho:o.op=.store t (.tmp s) x)(hi:P.info? t=some i)(hs:L.lookup s=some d)(hx:nl L x=true)(hd:o.dst=none)(h:(bE.qU d i.size s x).w P o.dst next σ H)(r:eN P L m σ H a Ha):lO P nr o a (Nx P L m next) Ha:=by
 obtain⟨M,off,j,v,X,q,Y,U,h5,Z,h7⟩:=h;obtain⟨ρ,K,Q,G,R,S,T,W⟩:=r.mem;have I:=T s _ X;unfold VW at I;rw[hs]at I;obtain⟨V,p,hp⟩:=I.resolve_left (by simp[undef]);simp only[Value.int.injEq,true_and,Int.ofNat_inj]at p;subst p;obtain⟨O,u⟩:=R d j q;have J:Ha (ρ d)=some (.cells j.toArray O (0,0),true):=by rw[Q];exact Hp.bC G u
 refine .inl ?_;have:execOp a.eval o=(do (Instr.storeAt t (.pointer (some ⟨ρ d,off,none⟩)) v);pure .skip:Sem Next):=by simp only[execOp,ho,r.get hx Y];simp only[Act.eval,hp]
 rw[this,Zg];simp only[Instr.storeAt,Instr.sureAddr,Zg,Zj,storeVar,Z4 hi,U,ne_eq,not_true_eq_false,qAw];refine LO _ _ v.cells.toList off 0 j Ha (r.aV M) J Z (by simp only[qBy];omega) ?_;refine .inr ⟨σ.put d (j.take off++v.cells.toList++j.drop (off+i.size)),H,?_,h7⟩;rw[hd];have hH:H (ρ d)=none:=G.left_none u;refine⟨r.size,r.defers,ρ,K.ins (ρ d) (.cells (j.take off++v.cells.toList++j.drop (off+i.size)).toArray O (0,0)),?_,?_,?_,?_,T,W.ins λo' h=>by rw[u]at h;simp at h;rintro c rfl;simp at h⟩
 ·rw[Q];refine Hp.ext' (λy=>?_) rfl;simp only[Hp.bH,Hp.eM];by_cases g:y=ρ d
  ·subst g;simp[hH,<-U]
  simp[g]
 ·exact((G.symm).kB u).symm
 ·intro D l k;simp only[aM.put]at k;by_cases g:D=d
  ·subst g;simp at k;subst k;exact⟨O,by simp[Hp.eM]⟩
  rw[Uh g]at k;obtain⟨t',h9⟩:=R D l k;exact⟨t',by rw[Hp.aH _ _ (λe=>g (S D d l j k q e))];exact h9⟩
 intro E F c1 c2 k1 N k3;have z:∃c,σ.box E=some c:=by
  simp only[aM.put]at k1;by_cases g:E=d
  ·rw[g];exact⟨_,q⟩
  rw[Uh g]at k1;exact⟨_,k1⟩
 have A:∃c,σ.box F=some c:=by
  simp only[aM.put]at N;by_cases g:F=d
  ·rw[g];exact⟨_,q⟩
  rw[Uh g]at N;exact⟨_,N⟩
 obtain⟨B,z⟩:=z;obtain⟨C,A⟩:=A;exact S E F B C z A k3
end sound
